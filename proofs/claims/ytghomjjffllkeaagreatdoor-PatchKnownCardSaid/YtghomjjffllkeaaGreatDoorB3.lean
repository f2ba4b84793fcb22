/- Texts that the last one of this claim imports. -/
import Derived.ChangeKeysEq
import Derived.Lib.SlTrimSet
import Derived.Lib.Bytealg
import Derived.Lib.Join
import Derived.Test.YtghomjjffllkeaaGreatDoorB2
set_option linter.unusedVariables false
set_option linter.unusedSimpArgs false
set_option linter.unusedSectionVars false
set_option linter.unusedVariables false
namespace Go.Proofs.YtghomjjffllkeaaGreatDoor
open Go.Lw Go.Gl Go.Pm Go.RowKit
theorem above_f (S : List Int) (b : Nat) (i k : Nat) (x : Int) (hx : S[i * 7 + k]? = some x) (hb : i * 7 + k < 49) (V : View) (hc : Cells V ⟨b, 3, none⟩ (flat ei S)) : Fnc Tryz.prog 88 [.pointer (some ⟨b, 0, none⟩), iv i, iv k] V fun r _ => r = iv x := by
 have hcx : vcell V ⟨b, 0 + 3 + (i * 7 + k), none⟩ = some (iv x) := by have := hc (i * 7 + k) (iv x) (by rw [flat_ei, List.getElem?_map, hx]; rfl); rw [Addr.add_lit] at this; rw [show 0 + 3 + (i * 7 + k) = 3 + (i * 7 + k) by omega]; exact this
 refine qh Tryz.func88 rfl Tryz.ntmps88 (Nat.le_of_ble_eq_true rfl) ?_
 intro w0 hw0
 refine At.nrm ?_
 refine At.zl (.q 0 .done) ?_
 refine AtT.zg ?_
 refine AtT.done ?_
 refine At.nrm ?_
 have e : ((i : Int) * 7 + (k : Int)).toNat * 1 = i * 7 + k := by omega
 refine At.zl (.q 0 (.q 1 (.q 2 (.q 3 (.q 4 (.q 5 (.q 6 (.q 7 (.q 8 (.q 9 .done)))))))))) ?_
 refine AtT.zh ?_
 refine AtT.zh ?_
 first | refine AtT.kmul ?_ | refine AtT.kmulW ?_
 refine AtT.zh ?_
 first | refine AtT.qj ?_ | refine AtT.zU ?_
 refine AtT.knil ?_
 first | refine AtT.zi jk ?_ | with_reducible refine AtT.zk jk ?_ | refine AtT.zn jk ?_
 refine AtT.kidxA Tryz.underlying86 tk3 ?_
 refine AtT.zo tk3 (v := iv x) ?_ (hc := by rw [e]; exact hcx)
 refine AtT.zg ?_
 refine AtT.done ?_
 refine At.nrm ?_
 exact At.qb rfl (.tmp rfl) rfl
abbrev bnc (a : Option Addr) (n c : Nat) (m : Int) (ak : Option Addr) (nk ck : Nat) (S : List Int) : List Value := .slice a n c :: iv m :: .slice ak nk ck :: flat ei S
theorem bnc_sums {V : View} {b : Nat} {x y z : Value} {S : List Int} {E : TypeId} (h : V b = some (LC (x :: y :: z :: flat ei S) E)) : Cells V ⟨b, 3, none⟩ (flat ei S) := by
 have := (qO h).at (k := 3) (vs := flat ei S) fun j u hj => by
  rw [show 3 + j = j + 1 + 1 + 1 by omega, List.getElem?_cons_succ, List.getElem?_cons_succ, List.getElem?_cons_succ]; exact hj
 rwa [Addr.add_lit] at this
def BnV (V : View) (b : Nat) (s : Sh) : Prop := ∃ a c ak ck, V b = some (LC (bnc a s.rows.length c s.most ak (knL s).length ck (fgF s)) 88) ∧ Sl V bse 1 (.slice a s.rows.length c) s.rows ∧ Sl V cle 2 (.slice ak (knL s).length ck) (knL s)
theorem BnV.le {V V' : View} {b : Nat} {s : Sh} (h : BnV V b s) (hl : Le V V') : BnV V' b s := by
 obtain ⟨a, c, ak, ck, h1, h2, h3⟩ := h
 exact ⟨a, c, ak, ck, hl _ _ h1, h2.le hl, h3.le hl⟩
theorem slice86 (b : Nat) (w : World) : (Instr.sliceAt 86 (.pointer (some ⟨b, 0 + 3, none⟩)) none none none).run Tryz.prog w = .ok (.slice (some ⟨b, 3, none⟩) 49 49) w := by kernel_rfl
theorem sums_set (S : List Int) (i : Nat) (x : Int) (hS : S.length = 49) (hi : i < 49) (a y z : Value) : SetAt (a :: y :: z :: flat ei S) (0 + 3 + i) (iv x) (a :: y :: z :: flat ei (S.set i x)) := by
 refine setAt_of (by simp only [List.length_cons]; rw [qV Lw.ei_len, hS]; omega) ?_
 rw [show 0 + 3 + i = i + 1 + 1 + 1 by omega, List.set_cons_succ, List.set_cons_succ, List.set_cons_succ, flat_ei, flat_ei, List.map_set]
theorem newBench_f (s : Sh) (hok : ShOk s) (V : View) (v : Value) (hv : ShV V v s) : Fnc Tryz.prog 87 [v] V fun r V' => ∃ b, r = .pointer (some ⟨b, 0, none⟩) ∧ BnV V' b s := by
 obtain ⟨a, c, rfl, hs⟩ := hv
 have hn := hok.n
 have hw := hok.w
 have hlen := hs.jf
 refine qh Tryz.func87 rfl Tryz.ntmps87 (Nat.le_of_ble_eq_true rfl) ?_
 intro w0 hw0
 refine At.nrm ?_
 refine At.zl (.n false 0 (.q 1 .done)) ?_
 refine AtT.qZ ?_
 intro b1
 refine AtT.zg ?_
 refine AtT.done ?_
 refine At.nrm ?_
 refine At.zl (.q 0 (.q 1 (.n false 2 (.q 3 .done)))) ?_
 first | refine AtT.zD zP ?_ | refine AtT.zK zP ?_ | refine AtT.zC zP ?_
 refine AtT.ja (bd88_0 _ _ _ _) ?_
 refine AtT.qZ ?_
 intro b10
 refine AtT.zg ?_
 refine AtT.done ?_
 refine At.nrm ?_
 refine At.zl (.q 0 (.q 1 (.q 2 (.q 3 (.n true 4 .done))))) ?_
 refine AtT.zh ?_
 refine AtT.knil ?_
 first | refine AtT.zi jk ?_ | with_reducible refine AtT.zk jk ?_ | refine AtT.zn jk ?_
 refine AtT.slV rfl trivial rfl (slice86 b10) (by decide) ?_
 refine AtT.clearAt rfl trivial Tryz.underlying39 z3 rfl (by kernel_rfl) (Nat.le_of_ble_eq_true rfl) (by rfl) (by rfl) (by repeat first|exact Upd.here|apply Upd.there) ?_ (us := flat ei (List.replicate 49 0)) (cs := bnc a s.rows.length c s.most none 0 0 (List.replicate 49 0)) (xs := bnc a s.rows.length c s.most none 0 0 (List.replicate 49 0))
 refine AtT.done ?_
 refine At.nrm ?_
 refine At.zl (.q 0 (.q 1 (.q 2 (.q 3 (.q 4 (.q 5 (.q 6 .done))))))) ?_
 refine AtT.zh ?_
 refine AtT.knil ?_
 first | refine AtT.zi fo88_0 ?_ | with_reducible refine AtT.zk fo88_0 ?_ | refine AtT.zn fo88_0 ?_
 first | refine AtT.zi zw ?_ | with_reducible refine AtT.zk zw ?_ | refine AtT.zn zw ?_
 first | refine AtT.zm zV ?_ | refine AtT.zo zV ?_
 first | refine AtT.zZ Tryz.underlying22 ?_ | refine AtT.qa Tryz.underlying22 ?_
 refine AtT.zh ?_
 refine AtT.done ?_
 refine At.nrm ?_
 refine At.newRow 90 2 ?_
 refine At.lp (ι := Nat × Option Addr × Nat) (KS := fun g => [(3, .pointer (some ⟨b10, 0, none⟩)), (19, .slice a s.rows.length c), (20, iv s.rows.length), (21, iv g.1)])
  (OS := fun g => [.blk b10 (LC (bnc a s.rows.length c s.most g.2.1 (knK s.rows g.1).length g.2.2 (fgP s.rows (wdS s) g.1 0)) 88), .row (.slice g.2.1 (knK s.rows g.1).length g.2.2) 90 2 (knK s.rows g.1).length (flat cle (knK s.rows g.1))])
  (VS := fun g V' => Le V V' ∧ g.1 ≤ s.rows.length) (μ := fun g => s.rows.length - g.1) (0, none, 0) ?_ ?_ ?_ ?_
 ·exact ⟨rfl, rfl, rfl, rfl, trivial⟩
 ·dsimp only; rw [fgP_start]; exact Pt.zM
 ·exact ⟨Le.refl _, Nat.zero_le _⟩
 rintro ⟨i, ao, co⟩ V' ks' O' ⟨hVV, hil⟩ hk hO hl2
 dsimp only at hil hk hO
 subst hk hO
 have hs2 := hs.le hVV
 refine At.nrm ?_
 refine At.zl (.q 0 .done) ?_
 refine AtT.zY ?_
 refine AtT.done ?_
 refine At.nrm ?_
 refine At.qc rfl (fun hp => ?_) (fun hp => ?_)
 rotate_left
 ·obtain rfl : i = s.rows.length := by omega
  refine At.nrm ?_
  refine At.zl (.q 0 (.q 1 .done)) ?_
  refine AtT.zh ?_
  refine AtT.zg ?_
  refine AtT.done ?_
  refine At.nrm ?_
  refine At.giveSl (l := knL s) cle_len rfl rfl zX.zM (fun V4 hV4 hs4 => ?_)
  refine At.giveB (b := b10) zX.zM (fun V6 hV6 hb6 => ?_)
  exact At.qb rfl (.tmp rfl) ⟨_, rfl, a, c, ao, co, hb6, (hs2.le hV4).le hV6, hs4.le hV6⟩
 obtain ⟨r, hr⟩ : ∃ r, s.rows[i]? = some r := ⟨_, List.getElem?_eq_getElem (by omega)⟩
 have hrs := hok.sz r (List.mem_of_getElem? hr)
 refine At.nrm ?_
 refine At.zl (.q 0 (.q 1 (.q 2 (.q 3 (.q 4 .done))))) ?_
 refine AtT.zh ?_
 refine AtT.qo Tryz.underlying22 tk9 ?_
 intro p24 e24 he24 hc24
 obtain rfl : r = e24 := by have : s.rows[i]? = some e24 := (by simpa using he24); rw [hr] at this; simpa using this
 first | refine AtT.zm tk9 ?_ | refine AtT.zo tk9 ?_
 refine AtT.zg ?_
 refine AtT.zg ?_
 refine AtT.done ?_
 refine At.nrm ?_
 refine At.zl (.q 0 (.q 1 (.q 2 .done))) ?_
 refine AtT.zh ?_
 refine AtT.qL rfl trivial Tryz.underlying9 rfl (by decide) ?_
 refine AtT.zh ?_
 refine AtT.done ?_
 refine At.nrm ?_
 refine At.lp (ι := Nat × Option Addr × Nat) (KS := fun g => [(3, .pointer (some ⟨b10, 0, none⟩)), (19, .slice a s.rows.length c), (20, iv s.rows.length), (21, iv i), (4, iv i), (5, .string r), (27, iv r.size), (28, iv g.1)])
  (OS := fun g => [.blk b10 (LC (bnc a s.rows.length c s.most g.2.1 (knK s.rows i ++ knR r i g.1).length g.2.2 (fgP s.rows (wdS s) i g.1)) 88), .row (.slice g.2.1 (knK s.rows i ++ knR r i g.1).length g.2.2) 90 2 (knK s.rows i ++ knR r i g.1).length (flat cle (knK s.rows i ++ knR r i g.1))])
  (VS := fun g V'' => Le V' V'' ∧ g.1 ≤ r.size) (μ := fun g => r.size - g.1) (0, ao, co) ?_ ?_ ?_ ?_
 ·exact ⟨rfl, rfl, rfl, rfl, rfl, rfl, rfl, rfl, trivial⟩
 ·dsimp only; rw [show knR r i 0 = [] from rfl, List.append_nil]; exact Pt.zM
 ·exact ⟨Le.refl _, Nat.zero_le _⟩
 rintro ⟨k, ak, ck⟩ V2 ks' O' ⟨hV2, hkl⟩ hk hO hl3
 dsimp only at hkl hk hO
 subst hk hO
 have hs3 := hs2.le hV2
 refine At.nrm ?_
 refine At.zl (.q 0 .done) ?_
 refine AtT.zY ?_
 refine AtT.done ?_
 refine At.nrm ?_
 refine At.qc rfl (fun hp2 => ?_) (fun hp2 => ?_)
 rotate_left
 ·obtain rfl : k = r.size := by omega
  refine At.nrm ?_
  refine At.zl (.q 0 (.q 1 .done)) ?_
  first | refine AtT.qj ?_ | refine AtT.zU ?_
  refine AtT.zh ?_
  refine AtT.done ?_
  refine At.nrm ?_
  refine At.round (i + 1, ak, ck) ?_ ?_ ?_ ?_
  ·show s.rows.length - (i + 1) < s.rows.length - i; omega
  ·exact ⟨hVV.trans hV2, by dsimp only; omega⟩
  ·exact ⟨rfl, rfl, rfl, ivs (by dsimp only; omega), trivial⟩
  ·dsimp only
   rw [knK_at hr, ← fgP_row, ← hrs]
   exact Pt.zM
 have hkl1 : (knK s.rows i).length ≤ 12 * i := knK_len (fun q hq => by have := hok.sz q hq; omega) i
 have hkn := knR_len r i k
 have hll : (knK s.rows i ++ knR r i k).length ≤ 140 := by rw [List.length_append]; omega
 have hge : s.rows.getD i ByteArray.empty = r := row_at hr
 have hst := fgN_step s.rows i k
 rw [hge] at hst
 have f1 := fgN_le hok (a := i + 1) (b := k) (by omega) (by omega)
 have f2 := fgN_le hok (a := i) (b := k + 1) (by omega) (by omega)
 have f3 := fgN_le hok (a := i) (b := k) (by omega) (by omega)
 have g1 := fgP_at s.rows (C := wdS s) (i := i) (k := k) (a := i + 1) (b := k) (by omega) (by omega) (.inr ⟨rfl, Nat.le_refl _⟩) (by omega)
 have g2 := fgP_at s.rows (C := wdS s) (i := i) (k := k) (a := i) (b := k + 1) (by omega) (by omega) (.inl (Nat.le_refl _)) (by omega)
 have g3 := fgP_at s.rows (C := wdS s) (i := i) (k := k) (a := i) (b := k) (by omega) (by omega) (.inl (Nat.le_refl _)) (by omega)
 have hset := fgP_step s.rows (C := wdS s) (i := i) (k := k) (by omega) hw.2 (by omega)
 refine At.nrm ?_
 refine At.zl (.q 0 (.q 1 .done)) ?_
 refine AtT.zh ?_
 refine AtT.zg ?_
 refine AtT.done ?_
 refine At.nrm ?_
 refine At.nrm ?_
 refine At.zl (.q 0 (.q 1 (.q 2 (.q 3 .done)))) ?_
 refine AtT.zh ?_
 refine AtT.zh ?_
 refine AtT.ixS rfl trivial Tryz.underlying9 rfl rfl (by omega) (by omega) (by decide) ?_
 rw [Int.toNat_natCast]
 refine AtT.keqI ?_
 refine AtT.done ?_
 refine At.nrm ?_
 refine At.nrmB ?_
 refine At.jo (ι := Option Addr × Nat) (fun g => [(3, .pointer (some ⟨b10, 0, none⟩)), (19, .slice a s.rows.length c), (20, iv s.rows.length), (21, iv i), (4, iv i), (5, .string r), (27, iv r.size), (28, iv k), (6, iv k)])
  (fun g => [.blk b10 (LC (bnc a s.rows.length c s.most g.1 (knK s.rows i ++ knR r i (k + 1)).length g.2 (fgP s.rows (wdS s) i k)) 88), .row (.slice g.1 (knK s.rows i ++ knR r i (k + 1)).length g.2) 90 2 (knK s.rows i ++ knR r i (k + 1)).length (flat cle (knK s.rows i ++ knR r i (k + 1)))]) (fun g V'' => Le V2 V'') ?_ ?_
 ·refine At.qc rfl (fun hb => ?_) (fun hb => ?_)
  ·have hsn : knR r i (k + 1) = knR r i k ++ [⟨(i : Int), (k : Int)⟩] := by simp only [knR]; rw [if_pos hb]
   refine At.nrm ?_
   refine At.zl (.q 0 (.q 1 (.q 2 (.q 3 (.q 4 (.q 5 (.q 6 (.q 7 (.n false 8 (.n true 9 (.q 10 (.q 11 (.n true 12 .done))))))))))))) ?_
   refine AtT.zh ?_
   refine AtT.zh ?_
   refine AtT.knil ?_
   first | refine AtT.zi qp ?_ | with_reducible refine AtT.zk qp ?_ | refine AtT.zn qp ?_
   first | refine AtT.zm tk84 ?_ | refine AtT.zo tk84 ?_
   refine AtT.zh ?_
   refine AtT.zh ?_
   refine AtT.ja (bd90_0_1 _ _) ?_
   refine AtT.zu (bs84_1_0 _ _) ?_
   intro q43 V43 hV43 hq43
   have g43 : Le V V43 := by first | exact hV43 | exact Le.trans (by assumption) hV43
   first | refine AtT.kappend Tryz.underlying84 rw90 ?_
   intro a44 c44
   refine AtT.knil ?_
   first | refine AtT.zi qp ?_ | with_reducible refine AtT.zk qp ?_ | refine AtT.zn qp ?_
   first | refine AtT.jd tk84 ?_ | refine AtT.zW tk84 ?_
   refine AtT.done ?_
   refine At.nrm ?_
   refine At.qC (a44, c44) (by first | assumption | exact Le.refl _) ⟨rfl, rfl, rfl, rfl, rfl, rfl, rfl, rfl, rfl, trivial⟩ ?_
   dsimp only
   rw [hsn, ← List.append_assoc, jg, show (knK s.rows i ++ knR r i k ++ [(⟨(i : Int), (k : Int)⟩ : Cl)]).length = (knK s.rows i ++ knR r i k).length + 1 from by rw [List.length_append]; rfl]
   exact Pt.zM
  ·have hsn : knR r i (k + 1) = knR r i k := by simp only [knR]; rw [if_neg hb]
   refine At.nrm ?_
   refine At.qC (ak, ck) (Le.refl _) ⟨rfl, rfl, rfl, rfl, rfl, rfl, rfl, rfl, rfl, trivial⟩ ?_
   dsimp only
   rw [hsn]
   exact Pt.zM
 rintro ⟨a5, c5⟩ V3 ks' O' hV3 hk hO hl4
 dsimp only at hk hO
 subst hk hO
 refine At.nrm ?_
 refine At.zl (.q 0 (.q 1 (.q 2 (.q 3 (.n false 4 (.q 5 (.q 6 (.q 7 (.q 8 (.n false 9 (.q 10 (.q 11 (.q 12 (.q 13 (.n false 14 (.q 15 (.q 16 .done))))))))))))))))) ?_
 refine AtT.zh ?_
 refine AtT.zh ?_
 first | refine AtT.qj ?_ | refine AtT.zU ?_
 refine AtT.zh ?_
 refine AtT.kcallL rfl rfl ok88 (fun VL hVL hOL => above_f (fgP s.rows (wdS s) i k) b10 (i + 1) k (fgN s.rows (i + 1) k) g1 (by omega) _ (bnc_sums (hOL b10 _ (List.mem_cons_self ..)))) ?_
 rintro _ rfl
 refine AtT.zh ?_
 refine AtT.zh ?_
 refine AtT.zh ?_
 first | refine AtT.qj ?_ | refine AtT.zU ?_
 refine AtT.kcallL rfl rfl ok88 (fun VL hVL hOL => above_f (fgP s.rows (wdS s) i k) b10 i (k + 1) (fgN s.rows i (k + 1)) g2 (by omega) _ (bnc_sums (hOL b10 _ (List.mem_cons_self ..)))) ?_
 rintro _ rfl
 first | refine AtT.qj ?_ | refine AtT.zU ?_
 refine AtT.zh ?_
 refine AtT.zh ?_
 refine AtT.zh ?_
 refine AtT.kcallL rfl rfl ok88 (fun VL hVL hOL => above_f (fgP s.rows (wdS s) i k) b10 i k (fgN s.rows i k) g3 (by omega) _ (bnc_sums (hOL b10 _ (List.mem_cons_self ..)))) ?_
 rintro _ rfl
 first | refine AtT.qD ?_ | refine AtT.qE ?_
 refine AtT.zg ?_
 refine AtT.done ?_
 refine At.nrm ?_
 have hoff : 0 + 3 + (((i : Int) + 1) * 7 + (k : Int) + 1).toNat * 1 = 0 + 3 + ((i + 1) * 7 + (k + 1)) := by omega
 have hfin := fun x => sums_set (fgP s.rows (wdS s) i k) ((i + 1) * 7 + (k + 1)) x (fgP_len _ _ _ _) (by omega) (.slice a s.rows.length c) (iv s.most) (.slice a5 (knK s.rows i ++ knR r i (k + 1)).length c5)
 refine At.nrm ?_
 refine At.zl (.q 0 (.q 1 (.q 2 (.q 3 .done)))) ?_
 refine AtT.zh ?_
 refine AtT.zh ?_
 refine AtT.ixS rfl trivial Tryz.underlying9 rfl rfl (by omega) (by omega) (by decide) ?_
 rw [Int.toNat_natCast]
 refine AtT.keqI ?_
 refine AtT.done ?_
 refine At.nrm ?_
 refine At.nrmB ?_
 refine At.jo (ι := Unit) (fun _ => [(3, .pointer (some ⟨b10, 0, none⟩)), (19, .slice a s.rows.length c), (20, iv s.rows.length), (21, iv i), (4, iv i), (5, .string r), (27, iv r.size), (28, iv k), (6, iv k), (7, iv (fgN s.rows (i + 1) (k + 1)))])
  (fun g => [.blk b10 (LC (bnc a s.rows.length c s.most a5 (knK s.rows i ++ knR r i (k + 1)).length c5 (fgP s.rows (wdS s) i k)) 88), .row (.slice a5 (knK s.rows i ++ knR r i (k + 1)).length c5) 90 2 (knK s.rows i ++ knR r i (k + 1)).length (flat cle (knK s.rows i ++ knR r i (k + 1)))]) (fun g V'' => V'' = V3) ?_ ?_
 ·refine At.qc rfl (fun hb => ?_) (fun hb => ?_)
  ·rw [if_pos hb] at hst
   rw [← hst]
   refine At.nrm ?_
   refine At.zl (.q 0 (.q 1 (.q 2 .done))) ?_
   refine AtT.zh ?_
   first | refine AtT.qj ?_ | refine AtT.zU ?_
   refine AtT.zg ?_
   refine AtT.done ?_
   refine At.nrm ?_
   exact At.qC () rfl ⟨rfl, rfl, rfl, rfl, rfl, rfl, rfl, rfl, rfl, rfl, trivial⟩ Pt.zM
  ·rw [if_neg hb, Int.add_zero] at hst
   rw [← hst]
   refine At.nrm ?_
   exact At.qC () rfl ⟨rfl, rfl, rfl, rfl, rfl, rfl, rfl, rfl, rfl, rfl, trivial⟩ Pt.zM
 rintro _ V5 ks' O' rfl hk hO hl5
 subst hk hO
 refine At.nrm ?_
 refine At.zl (.q 0 (.q 1 (.q 2 (.q 3 (.q 4 (.q 5 (.q 6 (.q 7 (.q 8 (.q 9 (.q 10 (.n true 11 .done)))))))))))) ?_
 refine AtT.zh ?_
 refine AtT.zh ?_
 first | refine AtT.qj ?_ | refine AtT.zU ?_
 first | refine AtT.kmul ?_ | refine AtT.kmulW ?_
 refine AtT.zh ?_
 first | refine AtT.qj ?_ | refine AtT.zU ?_
 first | refine AtT.qj ?_ | refine AtT.zU ?_
 refine AtT.zh ?_
 refine AtT.knil ?_
 first | refine AtT.zi jk ?_ | with_reducible refine AtT.zk jk ?_ | refine AtT.zn jk ?_
 refine AtT.kidxA Tryz.underlying86 tk3 ?_
 refine AtT.jd tk3 ?_ (hs := by rw [hoff]; exact hfin _)
 refine AtT.done ?_
 refine At.nrm ?_
 refine At.nrm ?_
 refine At.zl (.q 0 (.q 1 .done)) ?_
 first | refine AtT.qj ?_ | refine AtT.zU ?_
 refine AtT.zh ?_
 refine AtT.done ?_
 refine At.nrm ?_
 refine At.round (k + 1, a5, c5) ?_ ?_ ?_ ?_
 ·show r.size - (k + 1) < r.size - k; omega
 ·exact ⟨hV2.trans hV3, by dsimp only; omega⟩
 ·exact ⟨rfl, rfl, rfl, rfl, rfl, rfl, rfl, ivs (by dsimp only; omega), trivial⟩
 dsimp only
 rw [← hset]
 ·exact Pt.zM
end Go.Proofs.YtghomjjffllkeaaGreatDoor
set_option linter.unusedVariables false
namespace Go.Proofs.YtghomjjffllkeaaGreatDoor
open Go.Lw Go.Gl Go.Pm Go.RowKit
theorem jm (lo hi c : Int) : wi lo hi [c] = decide (lo ≤ c ∧ c ≤ hi) := by
 simp only [wi, List.any_cons, List.any_nil, outB]
 by_cases h1 : c < lo <;> by_cases h2 : hi < c <;> simp [h1, h2] <;> omega
theorem plain3 : Tryz.prog.plainKey 3 = true := by kernel_rfl
theorem cells3 : Tryz.prog.cellsOf 3 = 1 := by kernel_rfl
theorem arr_at {l : List Int} {i : Nat} {x : Int} (h : l[i]? = some x) : (flat ei l)[i]? = some (iv x) := by rw [flat_ei, List.getElem?_map, h]; rfl
theorem eqItems3 (w : World) (l m : List Int) : ∀ is : List Nat, (∀ i ∈ is, i < l.length ∧ i < m.length) → (Op.eqItems 9999 3 1 (flat ei l).toArray (flat ei m).toArray is).run Tryz.prog w = .ok (is.all fun i => decide (l.getD i 0 = m.getD i 0)) w
 | [], _ => by simp [Op.eqItems]
 | i :: is, h => by
  obtain ⟨h1, h2⟩ := h i (by simp)
  obtain ⟨x, hx⟩ : ∃ x, l[i]? = some x := ⟨_, List.getElem?_eq_getElem h1⟩
  obtain ⟨y, hy⟩ : ∃ y, m[i]? = some y := ⟨_, List.getElem?_eq_getElem h2⟩
  have ih := eqItems3 w l m is fun j hj => h j (by simp [hj])
  have p1 : (part 3 (flat ei l).toArray (i * 1)).run Tryz.prog w = .ok (iv x) w := run_part_plain w plain3 (by rw [Nat.mul_one]; simpa using arr_at hx)
  have p2 : (part 3 (flat ei m).toArray (i * 1)).run Tryz.prog w = .ok (iv y) w := run_part_plain w plain3 (by rw [Nat.mul_one]; simpa using arr_at hy)
  have e1 : l.getD i 0 = x := by simp [List.getD, hx]
  have e2 : m.getD i 0 = y := by simp [List.getD, hy]
  have p3 : (Op.equalIn 9999 3 (iv x) (iv y)).run Tryz.prog w = .ok (x == y) w := run_equalIn_int w 9998 3 .i64 .i64 x y Tryz.underlying3
  simp only [Op.eqItems, Sem.run_bind, p1, p2, p3, Result.andThen_ok, List.all_cons, e1, e2]
  by_cases c : x = y
  ·subst c
   simp [ih]
  ·simp [c]
theorem eqS86 (l m : List Int) (h1 : l.length = 49) (h2 : m.length = 49) : EqS Tryz.prog 86 (flat ei l) (flat ei m) (decide (l = m)) := by
 refine ⟨by first | exact Tryz.eqGuardType86 | kernel_rfl, fun w => ?_⟩
 obtain ⟨i3, hi3, _⟩ : ∃ i, Tryz.prog.info? 3 = some i ∧ True := by
  obtain ⟨i, hi, _⟩ := rowB_info rw3
  exact ⟨i, hi, trivial⟩
 have hb : ((List.range 49).all fun i => decide (l.getD i 0 = m.getD i 0)) = decide (l = m) := by
  rw [Bool.eq_iff_iff, List.all_eq_true, decide_eq_true_eq]
  constructor
  ·intro h
   apply List.ext_getElem?
   intro i
   by_cases hi : i < 49
   ·have := of_decide_eq_true (h i (List.mem_range.2 hi))
    obtain ⟨x, hx⟩ : ∃ x, l[i]? = some x := ⟨_, List.getElem?_eq_getElem (by omega)⟩
    obtain ⟨y, hy⟩ : ∃ y, m[i]? = some y := ⟨_, List.getElem?_eq_getElem (by omega)⟩
    simp only [List.getD, hx, hy, Option.getD_some] at this
    rw [hx, hy, this]
   ·rw [List.getElem?_eq_none (by omega), List.getElem?_eq_none (by omega)]
  ·rintro rfl i _; simp
 rw [show (10000 : Nat) = 9999 + 1 from rfl, run_equalIn_array w 9999 _ _ Tryz.underlying86 hi3, cells3, eqItems3 w l m _ (fun i hi => by rw [List.mem_range] at hi; omega), hb]
theorem bn_get {V : View} {b : Nat} {s : Sh} (h : BnV V b s) : ∃ a c ak ck, Cells V ⟨b, 0, none⟩ [.slice a s.rows.length c] ∧ Cells V ⟨b, 1, none⟩ [iv s.most] ∧ Cells V ⟨b, 2, none⟩ [.slice ak (knL s).length ck] ∧ Cells V ⟨b, 3, none⟩ (flat ei (fgF s)) ∧ Sl V bse 1 (.slice a s.rows.length c) s.rows ∧ Sl V cle 2 (.slice ak (knL s).length ck) (knL s) := by
 obtain ⟨a, c, ak, ck, h1, h2, h3⟩ := h
 have hc := qO h1
 refine ⟨a, c, ak, ck, fun j u hj => ?_, ?_, ?_, bnc_sums h1, h2, h3⟩
 ·match j, hj with
  | 0, hj => exact hc 0 u hj
 ·have := hc.at (k := 1) (vs := [iv s.most]) fun j u hj => by
   match j, hj with
   | 0, hj => exact hj
  rwa [Addr.add_lit] at this
 ·have := hc.at (k := 2) (vs := [.slice ak (knL s).length ck]) fun j u hj => by
   match j, hj with
   | 0, hj => exact hj
  rwa [Addr.add_lit] at this
theorem lies_f (s : Sh) (hok : ShOk s) (p : Pc) (V : View) (b : Nat) (hb : BnV V b s) : Fnc Tryz.prog 58 [.pointer (some ⟨b, 0, none⟩), pcv p] V fun r _ => r = iv (peE (gdS s) p) := by
 obtain ⟨a, c, ak, ck, hc0, hc1, hc2, hc3, hs, hsk⟩ := bn_get hb
 obtain ⟨r0, hr0, hr0s⟩ := sh_row0 hok
 have hn := hok.n
 have hw := hok.w
 have hR : (gdS s).R = (s.rows.length : Int) := rfl
 have hC : (gdS s).C = (wdS s : Int) := rfl
 have hM : (gdS s).most = s.most := rfl
 refine qh Tryz.func58 rfl Tryz.ntmps58 (Nat.le_of_ble_eq_true rfl) ?_
 intro w0 hw0
 refine At.nrm ?_
 refine At.zl (.n false 0 (.q 1 .done)) ?_
 refine AtT.qZ ?_
 intro b3
 refine AtT.zg ?_
 refine AtT.done ?_
 refine At.nrm ?_
 refine At.jo (ι := Unit) (fun _ => [(0, .pointer (some ⟨b, 0, none⟩)), (3, .pointer (some ⟨b3, 0, none⟩)), (5, iv s.rows.length), (6, iv (wdS s))]) (fun _ => [.blk b3 (LC (pce p) 26)]) (fun _ V'' => V = V'') ?_ ?_
 ·refine At.draw (.q 0 (.q 1 (.q 2 (.q 3 (.q 4 (.q 5 (.q 6 (.q 7 (.q 8 (.q 9 (.q 10 (.q 11 (.q 12 (.q 13 (.q 14 (.q 15 .done)))))))))))))))) ffm (by kernel_rfl) ?_
  refine AtT.zh ?_
  refine AtT.knil ?_
  first | refine AtT.zi fo88_0 ?_ | with_reducible refine AtT.zk fo88_0 ?_ | refine AtT.zn fo88_0 ?_
  first | refine AtT.zi zw ?_ | with_reducible refine AtT.zk zw ?_ | refine AtT.zn zw ?_
  first | refine AtT.zm zV ?_ | refine AtT.zo zV ?_
  first | refine AtT.zZ Tryz.underlying22 ?_ | refine AtT.qa Tryz.underlying22 ?_
  refine AtT.zh ?_
  refine AtT.knil ?_
  first | refine AtT.zi fo88_0 ?_ | with_reducible refine AtT.zk fo88_0 ?_ | refine AtT.zn fo88_0 ?_
  first | refine AtT.zi zw ?_ | with_reducible refine AtT.zk zw ?_ | refine AtT.zn zw ?_
  first | refine AtT.zm zV ?_ | refine AtT.zo zV ?_
  refine AtT.qo Tryz.underlying22 tk9 ?_
  intro p20 e20 he20 hc20
  obtain rfl : r0 = e20 := by have : s.rows[0]? = some e20 := (by simpa using he20); rw [hr0] at this; simpa using this
  first | refine AtT.zm tk9 ?_ | refine AtT.zo tk9 ?_
  refine AtT.qL rfl trivial Tryz.underlying9 rfl (by decide) ?_
  refine AtT.zg ?_
  refine AtT.zg ?_
  refine AtT.done ?_
  refine At.nrm ?_
  all_goals (rw [hr0s]; exact At.qC () rfl ⟨rfl, rfl, rfl, rfl, trivial⟩ Pt.zM)
 rintro _ _ ks' O' rfl hk hO hl1
 subst hk hO
 refine At.nrm ?_
 by_cases m1 : 1 ≤ p.h ∧ p.h ≤ (s.rows.length : Int)
 rotate_left
 ·refine At.zl (.q 0 (.q 1 (.q 2 (.n false 3 (.n false 4 (.q 5 (.q 6 (.q 7 (.q 8 (.q 9 (.n false 10 (.n false 11 (.q 12 (.q 13 (.q 14 (.q 15 (.q 16 (.q 17 (.q 18 (.q 19 (.q 20 (.n false 21 (.n false 22 (.q 23 (.q 24 (.q 25 (.q 26 (.q 27 (.q 28 (.q 29 (.q 30 (.q 31 (.n false 32 (.n false 33 (.q 34 (.q 35 .done)))))))))))))))))))))))))))))))))))) ?_
  refine AtT.zh ?_
  first | refine AtT.zi zy ?_ | with_reducible refine AtT.zk zy ?_ | refine AtT.zn zy ?_
  first | refine AtT.zm tk3 ?_ | refine AtT.zo tk3 ?_
  refine AtT.zu (zT _) ?_
  intro q26 V26 hV26 hq26
  have g26 : Le V V26 := by first | exact hV26 | exact Le.trans (by assumption) hV26
  refine AtT.zq rfl rfl jl (qi 1 s.rows.length [p.h] _ _ (Sl.lit hq26 rfl (by simp))) ?_
  rintro _ rfl; rw [jm, decide_eq_false m1]
  refine AtT.qW ?_
  refine AtT.zh ?_
  all_goals (first | refine AtT.kL 29 ?_ | refine AtT.zB (d := 29) rfl (fun hg29 => ?_) (fun hg29 => ?_) | refine AtT.zA (d := 29) rfl (fun hg29 => ?_) (fun hg29 => ?_))
  all_goals first|refine AtT.zf ?_|refine AtT.ze ?_|(refine AtT.zh ?_)
  all_goals first|refine AtT.zf ?_|refine AtT.ze ?_|(first | refine AtT.zi zx ?_ | with_reducible refine AtT.zk zx ?_ | refine AtT.zn zx ?_)
  all_goals first|refine AtT.zf ?_|refine AtT.ze ?_|(first | refine AtT.zm tk3 ?_ | refine AtT.zo tk3 ?_)
  all_goals first|refine AtT.zO ?_|refine AtT.zI ?_|((refine AtT.zu (zT _) ?_) ; (intro q33 V33 hV33 hq33) ; (have g33 : Le V V33 := by first | exact hV33 | exact Le.trans (by assumption) hV33))
  all_goals first|refine AtT.zO ?_|refine AtT.zI ?_|((fail))
  all_goals first|refine AtT.zf ?_|refine AtT.ze ?_|(refine AtT.qW ?_)
  all_goals (refine AtT.zz ?_)
  all_goals (refine AtT.zh ?_)
  all_goals (first | refine AtT.kL 37 ?_ | refine AtT.zB (d := 37) rfl (fun hg37 => ?_) (fun hg37 => ?_) | refine AtT.zA (d := 37) rfl (fun hg37 => ?_) (fun hg37 => ?_))
  all_goals first|refine AtT.zf ?_|refine AtT.ze ?_|(refine AtT.zh ?_)
  all_goals first|refine AtT.zf ?_|refine AtT.ze ?_|(first | refine AtT.zi zy ?_ | with_reducible refine AtT.zk zy ?_ | refine AtT.zn zy ?_)
  all_goals first|refine AtT.zf ?_|refine AtT.ze ?_|(first | refine AtT.zm tk3 ?_ | refine AtT.zo tk3 ?_)
  all_goals first|refine AtT.zf ?_|refine AtT.ze ?_|(first | refine AtT.qD ?_ | refine AtT.qE ?_)
  all_goals first|refine AtT.zf ?_|refine AtT.ze ?_|(first | refine AtT.zi zH ?_ | with_reducible refine AtT.zk zH ?_ | refine AtT.zn zH ?_)
  all_goals first|refine AtT.zf ?_|refine AtT.ze ?_|(first | refine AtT.zm tk3 ?_ | refine AtT.zo tk3 ?_)
  all_goals first|refine AtT.zO ?_|refine AtT.zI ?_|((refine AtT.zu (zT _) ?_) ; (intro q44 V44 hV44 hq44) ; (have g44 : Le V V44 := by first | exact hV44 | exact Le.trans (by assumption) hV44))
  all_goals first|refine AtT.zO ?_|refine AtT.zI ?_|((fail))
  all_goals first|refine AtT.zf ?_|refine AtT.ze ?_|(refine AtT.qW ?_)
  all_goals (refine AtT.zz ?_)
  all_goals (refine AtT.zh ?_)
  all_goals (first | refine AtT.kL 48 ?_ | refine AtT.zB (d := 48) rfl (fun hg48 => ?_) (fun hg48 => ?_) | refine AtT.zA (d := 48) rfl (fun hg48 => ?_) (fun hg48 => ?_))
  all_goals first|refine AtT.zf ?_|refine AtT.ze ?_|(refine AtT.zh ?_)
  all_goals first|refine AtT.zf ?_|refine AtT.ze ?_|(first | refine AtT.zi zx ?_ | with_reducible refine AtT.zk zx ?_ | refine AtT.zn zx ?_)
  all_goals first|refine AtT.zf ?_|refine AtT.ze ?_|(first | refine AtT.zm tk3 ?_ | refine AtT.zo tk3 ?_)
  all_goals first|refine AtT.zf ?_|refine AtT.ze ?_|(first | refine AtT.qD ?_ | refine AtT.qE ?_)
  all_goals first|refine AtT.zf ?_|refine AtT.ze ?_|(first | refine AtT.zi zG ?_ | with_reducible refine AtT.zk zG ?_ | refine AtT.zn zG ?_)
  all_goals first|refine AtT.zf ?_|refine AtT.ze ?_|(first | refine AtT.zm tk3 ?_ | refine AtT.zo tk3 ?_)
  all_goals first|refine AtT.zO ?_|refine AtT.zI ?_|((refine AtT.zu (zT _) ?_) ; (intro q55 V55 hV55 hq55) ; (have g55 : Le V V55 := by first | exact hV55 | exact Le.trans (by assumption) hV55))
  all_goals first|refine AtT.zO ?_|refine AtT.zI ?_|((fail))
  all_goals first|refine AtT.zf ?_|refine AtT.ze ?_|(refine AtT.qW ?_)
  all_goals (refine AtT.zz ?_)
  all_goals refine AtT.done ?_
  all_goals (refine At.nrm ?_)
  refine At.qA rfl rfl ?_
  refine At.nrm ?_
  refine At.zl (.q 0 .done) ?_
  refine AtT.zg ?_
  refine AtT.done ?_
  refine At.nrm ?_
  exact At.qb rfl (.tmp rfl) (by unfold peE; rw [if_pos (by omega)])
 by_cases m2 : 1 ≤ p.w ∧ p.w ≤ (wdS s : Int)
 rotate_left
 ·refine At.zl (.q 0 (.q 1 (.q 2 (.n false 3 (.n false 4 (.q 5 (.q 6 (.q 7 (.q 8 (.q 9 (.n false 10 (.n false 11 (.q 12 (.q 13 (.q 14 (.q 15 (.q 16 (.q 17 (.q 18 (.q 19 (.q 20 (.n false 21 (.n false 22 (.q 23 (.q 24 (.q 25 (.q 26 (.q 27 (.q 28 (.q 29 (.q 30 (.q 31 (.n false 32 (.n false 33 (.q 34 (.q 35 .done)))))))))))))))))))))))))))))))))))) ?_
  refine AtT.zh ?_
  first | refine AtT.zi zy ?_ | with_reducible refine AtT.zk zy ?_ | refine AtT.zn zy ?_
  first | refine AtT.zm tk3 ?_ | refine AtT.zo tk3 ?_
  refine AtT.zu (zT _) ?_
  intro q26 V26 hV26 hq26
  have g26 : Le V V26 := by first | exact hV26 | exact Le.trans (by assumption) hV26
  refine AtT.zq rfl rfl jl (qi 1 s.rows.length [p.h] _ _ (Sl.lit hq26 rfl (by simp))) ?_
  rintro _ rfl; rw [jm, decide_eq_true m1]
  refine AtT.qW ?_
  refine AtT.zh ?_
  all_goals (first | refine AtT.kL 29 ?_ | refine AtT.zB (d := 29) rfl (fun hg29 => ?_) (fun hg29 => ?_) | refine AtT.zA (d := 29) rfl (fun hg29 => ?_) (fun hg29 => ?_))
  all_goals first|refine AtT.zf ?_|refine AtT.ze ?_|(refine AtT.zh ?_)
  all_goals first|refine AtT.zf ?_|refine AtT.ze ?_|(first | refine AtT.zi zx ?_ | with_reducible refine AtT.zk zx ?_ | refine AtT.zn zx ?_)
  all_goals first|refine AtT.zf ?_|refine AtT.ze ?_|(first | refine AtT.zm tk3 ?_ | refine AtT.zo tk3 ?_)
  all_goals first|refine AtT.zO ?_|refine AtT.zI ?_|((refine AtT.zu (zT _) ?_) ; (intro q33 V33 hV33 hq33) ; (have g33 : Le V V33 := by first | exact hV33 | exact Le.trans (by assumption) hV33))
  all_goals first|refine AtT.zO ?_|refine AtT.zI ?_|((refine AtT.zq rfl rfl jl (qi 1 (wdS s) [p.w] _ _ (Sl.lit hq33 rfl (by simp))) ?_) ; (rintro _ rfl; rw [jm, decide_eq_false m2]))
  all_goals first|refine AtT.zf ?_|refine AtT.ze ?_|(refine AtT.qW ?_)
  all_goals (refine AtT.zz ?_)
  all_goals (refine AtT.zh ?_)
  all_goals (first | refine AtT.kL 37 ?_ | refine AtT.zB (d := 37) rfl (fun hg37 => ?_) (fun hg37 => ?_) | refine AtT.zA (d := 37) rfl (fun hg37 => ?_) (fun hg37 => ?_))
  all_goals first|refine AtT.zf ?_|refine AtT.ze ?_|(refine AtT.zh ?_)
  all_goals first|refine AtT.zf ?_|refine AtT.ze ?_|(first | refine AtT.zi zy ?_ | with_reducible refine AtT.zk zy ?_ | refine AtT.zn zy ?_)
  all_goals first|refine AtT.zf ?_|refine AtT.ze ?_|(first | refine AtT.zm tk3 ?_ | refine AtT.zo tk3 ?_)
  all_goals first|refine AtT.zf ?_|refine AtT.ze ?_|(first | refine AtT.qD ?_ | refine AtT.qE ?_)
  all_goals first|refine AtT.zf ?_|refine AtT.ze ?_|(first | refine AtT.zi zH ?_ | with_reducible refine AtT.zk zH ?_ | refine AtT.zn zH ?_)
  all_goals first|refine AtT.zf ?_|refine AtT.ze ?_|(first | refine AtT.zm tk3 ?_ | refine AtT.zo tk3 ?_)
  all_goals first|refine AtT.zO ?_|refine AtT.zI ?_|((refine AtT.zu (zT _) ?_) ; (intro q44 V44 hV44 hq44) ; (have g44 : Le V V44 := by first | exact hV44 | exact Le.trans (by assumption) hV44))
  all_goals first|refine AtT.zO ?_|refine AtT.zI ?_|((fail))
  all_goals first|refine AtT.zf ?_|refine AtT.ze ?_|(refine AtT.qW ?_)
  all_goals (refine AtT.zz ?_)
  all_goals (refine AtT.zh ?_)
  all_goals (first | refine AtT.kL 48 ?_ | refine AtT.zB (d := 48) rfl (fun hg48 => ?_) (fun hg48 => ?_) | refine AtT.zA (d := 48) rfl (fun hg48 => ?_) (fun hg48 => ?_))
  all_goals first|refine AtT.zf ?_|refine AtT.ze ?_|(refine AtT.zh ?_)
  all_goals first|refine AtT.zf ?_|refine AtT.ze ?_|(first | refine AtT.zi zx ?_ | with_reducible refine AtT.zk zx ?_ | refine AtT.zn zx ?_)
  all_goals first|refine AtT.zf ?_|refine AtT.ze ?_|(first | refine AtT.zm tk3 ?_ | refine AtT.zo tk3 ?_)
  all_goals first|refine AtT.zf ?_|refine AtT.ze ?_|(first | refine AtT.qD ?_ | refine AtT.qE ?_)
  all_goals first|refine AtT.zf ?_|refine AtT.ze ?_|(first | refine AtT.zi zG ?_ | with_reducible refine AtT.zk zG ?_ | refine AtT.zn zG ?_)
  all_goals first|refine AtT.zf ?_|refine AtT.ze ?_|(first | refine AtT.zm tk3 ?_ | refine AtT.zo tk3 ?_)
  all_goals first|refine AtT.zO ?_|refine AtT.zI ?_|((refine AtT.zu (zT _) ?_) ; (intro q55 V55 hV55 hq55) ; (have g55 : Le V V55 := by first | exact hV55 | exact Le.trans (by assumption) hV55))
  all_goals first|refine AtT.zO ?_|refine AtT.zI ?_|((fail))
  all_goals first|refine AtT.zf ?_|refine AtT.ze ?_|(refine AtT.qW ?_)
  all_goals (refine AtT.zz ?_)
  all_goals refine AtT.done ?_
  all_goals (refine At.nrm ?_)
  refine At.qA rfl rfl ?_
  refine At.nrm ?_
  refine At.zl (.q 0 .done) ?_
  refine AtT.zg ?_
  refine AtT.done ?_
  refine At.nrm ?_
  exact At.qb rfl (.tmp rfl) (by unfold peE; rw [if_pos (by omega)])
 by_cases m3 : 0 ≤ p.t ∧ p.t ≤ (s.rows.length : Int) - p.h
 rotate_left
 ·refine At.zl (.q 0 (.q 1 (.q 2 (.n false 3 (.n false 4 (.q 5 (.q 6 (.q 7 (.q 8 (.q 9 (.n false 10 (.n false 11 (.q 12 (.q 13 (.q 14 (.q 15 (.q 16 (.q 17 (.q 18 (.q 19 (.q 20 (.n false 21 (.n false 22 (.q 23 (.q 24 (.q 25 (.q 26 (.q 27 (.q 28 (.q 29 (.q 30 (.q 31 (.n false 32 (.n false 33 (.q 34 (.q 35 .done)))))))))))))))))))))))))))))))))))) ?_
  refine AtT.zh ?_
  first | refine AtT.zi zy ?_ | with_reducible refine AtT.zk zy ?_ | refine AtT.zn zy ?_
  first | refine AtT.zm tk3 ?_ | refine AtT.zo tk3 ?_
  refine AtT.zu (zT _) ?_
  intro q26 V26 hV26 hq26
  have g26 : Le V V26 := by first | exact hV26 | exact Le.trans (by assumption) hV26
  refine AtT.zq rfl rfl jl (qi 1 s.rows.length [p.h] _ _ (Sl.lit hq26 rfl (by simp))) ?_
  rintro _ rfl; rw [jm, decide_eq_true m1]
  refine AtT.qW ?_
  refine AtT.zh ?_
  all_goals (first | refine AtT.kL 29 ?_ | refine AtT.zB (d := 29) rfl (fun hg29 => ?_) (fun hg29 => ?_) | refine AtT.zA (d := 29) rfl (fun hg29 => ?_) (fun hg29 => ?_))
  all_goals first|refine AtT.zf ?_|refine AtT.ze ?_|(refine AtT.zh ?_)
  all_goals first|refine AtT.zf ?_|refine AtT.ze ?_|(first | refine AtT.zi zx ?_ | with_reducible refine AtT.zk zx ?_ | refine AtT.zn zx ?_)
  all_goals first|refine AtT.zf ?_|refine AtT.ze ?_|(first | refine AtT.zm tk3 ?_ | refine AtT.zo tk3 ?_)
  all_goals first|refine AtT.zO ?_|refine AtT.zI ?_|((refine AtT.zu (zT _) ?_) ; (intro q33 V33 hV33 hq33) ; (have g33 : Le V V33 := by first | exact hV33 | exact Le.trans (by assumption) hV33))
  all_goals first|refine AtT.zO ?_|refine AtT.zI ?_|((refine AtT.zq rfl rfl jl (qi 1 (wdS s) [p.w] _ _ (Sl.lit hq33 rfl (by simp))) ?_) ; (rintro _ rfl; rw [jm, decide_eq_true m2]))
  all_goals first|refine AtT.zf ?_|refine AtT.ze ?_|(refine AtT.qW ?_)
  all_goals (refine AtT.zz ?_)
  all_goals (refine AtT.zh ?_)
  all_goals (first | refine AtT.kL 37 ?_ | refine AtT.zB (d := 37) rfl (fun hg37 => ?_) (fun hg37 => ?_) | refine AtT.zA (d := 37) rfl (fun hg37 => ?_) (fun hg37 => ?_))
  all_goals first|refine AtT.zf ?_|refine AtT.ze ?_|(refine AtT.zh ?_)
  all_goals first|refine AtT.zf ?_|refine AtT.ze ?_|(first | refine AtT.zi zy ?_ | with_reducible refine AtT.zk zy ?_ | refine AtT.zn zy ?_)
  all_goals first|refine AtT.zf ?_|refine AtT.ze ?_|(first | refine AtT.zm tk3 ?_ | refine AtT.zo tk3 ?_)
  all_goals first|refine AtT.zf ?_|refine AtT.ze ?_|(first | refine AtT.qD ?_ | refine AtT.qE ?_)
  all_goals first|refine AtT.zf ?_|refine AtT.ze ?_|(first | refine AtT.zi zH ?_ | with_reducible refine AtT.zk zH ?_ | refine AtT.zn zH ?_)
  all_goals first|refine AtT.zf ?_|refine AtT.ze ?_|(first | refine AtT.zm tk3 ?_ | refine AtT.zo tk3 ?_)
  all_goals first|refine AtT.zO ?_|refine AtT.zI ?_|((refine AtT.zu (zT _) ?_) ; (intro q44 V44 hV44 hq44) ; (have g44 : Le V V44 := by first | exact hV44 | exact Le.trans (by assumption) hV44))
  all_goals first|refine AtT.zO ?_|refine AtT.zI ?_|((refine AtT.zq rfl rfl jl (qi 0 (s.rows.length - p.h) [p.t] _ _ (Sl.lit hq44 rfl (by simp))) ?_) ; (rintro _ rfl; rw [jm, decide_eq_false m3]))
  all_goals first|refine AtT.zf ?_|refine AtT.ze ?_|(refine AtT.qW ?_)
  all_goals (refine AtT.zz ?_)
  all_goals (refine AtT.zh ?_)
  all_goals (first | refine AtT.kL 48 ?_ | refine AtT.zB (d := 48) rfl (fun hg48 => ?_) (fun hg48 => ?_) | refine AtT.zA (d := 48) rfl (fun hg48 => ?_) (fun hg48 => ?_))
  all_goals first|refine AtT.zf ?_|refine AtT.ze ?_|(refine AtT.zh ?_)
  all_goals first|refine AtT.zf ?_|refine AtT.ze ?_|(first | refine AtT.zi zx ?_ | with_reducible refine AtT.zk zx ?_ | refine AtT.zn zx ?_)
  all_goals first|refine AtT.zf ?_|refine AtT.ze ?_|(first | refine AtT.zm tk3 ?_ | refine AtT.zo tk3 ?_)
  all_goals first|refine AtT.zf ?_|refine AtT.ze ?_|(first | refine AtT.qD ?_ | refine AtT.qE ?_)
  all_goals first|refine AtT.zf ?_|refine AtT.ze ?_|(first | refine AtT.zi zG ?_ | with_reducible refine AtT.zk zG ?_ | refine AtT.zn zG ?_)
  all_goals first|refine AtT.zf ?_|refine AtT.ze ?_|(first | refine AtT.zm tk3 ?_ | refine AtT.zo tk3 ?_)
  all_goals first|refine AtT.zO ?_|refine AtT.zI ?_|((refine AtT.zu (zT _) ?_) ; (intro q55 V55 hV55 hq55) ; (have g55 : Le V V55 := by first | exact hV55 | exact Le.trans (by assumption) hV55))
  all_goals first|refine AtT.zO ?_|refine AtT.zI ?_|((fail))
  all_goals first|refine AtT.zf ?_|refine AtT.ze ?_|(refine AtT.qW ?_)
  all_goals (refine AtT.zz ?_)
  all_goals refine AtT.done ?_
  all_goals (refine At.nrm ?_)
  refine At.qA rfl rfl ?_
  refine At.nrm ?_
  refine At.zl (.q 0 .done) ?_
  refine AtT.zg ?_
  refine AtT.done ?_
  refine At.nrm ?_
  exact At.qb rfl (.tmp rfl) (by unfold peE; rw [if_pos (by omega)])
 by_cases m4 : 0 ≤ p.l ∧ p.l ≤ (wdS s : Int) - p.w
 rotate_left
 ·refine At.zl (.q 0 (.q 1 (.q 2 (.n false 3 (.n false 4 (.q 5 (.q 6 (.q 7 (.q 8 (.q 9 (.n false 10 (.n false 11 (.q 12 (.q 13 (.q 14 (.q 15 (.q 16 (.q 17 (.q 18 (.q 19 (.q 20 (.n false 21 (.n false 22 (.q 23 (.q 24 (.q 25 (.q 26 (.q 27 (.q 28 (.q 29 (.q 30 (.q 31 (.n false 32 (.n false 33 (.q 34 (.q 35 .done)))))))))))))))))))))))))))))))))))) ?_
  refine AtT.zh ?_
  first | refine AtT.zi zy ?_ | with_reducible refine AtT.zk zy ?_ | refine AtT.zn zy ?_
  first | refine AtT.zm tk3 ?_ | refine AtT.zo tk3 ?_
  refine AtT.zu (zT _) ?_
  intro q26 V26 hV26 hq26
  have g26 : Le V V26 := by first | exact hV26 | exact Le.trans (by assumption) hV26
  refine AtT.zq rfl rfl jl (qi 1 s.rows.length [p.h] _ _ (Sl.lit hq26 rfl (by simp))) ?_
  rintro _ rfl; rw [jm, decide_eq_true m1]
  refine AtT.qW ?_
  refine AtT.zh ?_
  all_goals (first | refine AtT.kL 29 ?_ | refine AtT.zB (d := 29) rfl (fun hg29 => ?_) (fun hg29 => ?_) | refine AtT.zA (d := 29) rfl (fun hg29 => ?_) (fun hg29 => ?_))
  all_goals first|refine AtT.zf ?_|refine AtT.ze ?_|(refine AtT.zh ?_)
  all_goals first|refine AtT.zf ?_|refine AtT.ze ?_|(first | refine AtT.zi zx ?_ | with_reducible refine AtT.zk zx ?_ | refine AtT.zn zx ?_)
  all_goals first|refine AtT.zf ?_|refine AtT.ze ?_|(first | refine AtT.zm tk3 ?_ | refine AtT.zo tk3 ?_)
  all_goals first|refine AtT.zO ?_|refine AtT.zI ?_|((refine AtT.zu (zT _) ?_) ; (intro q33 V33 hV33 hq33) ; (have g33 : Le V V33 := by first | exact hV33 | exact Le.trans (by assumption) hV33))
  all_goals first|refine AtT.zO ?_|refine AtT.zI ?_|((refine AtT.zq rfl rfl jl (qi 1 (wdS s) [p.w] _ _ (Sl.lit hq33 rfl (by simp))) ?_) ; (rintro _ rfl; rw [jm, decide_eq_true m2]))
  all_goals first|refine AtT.zf ?_|refine AtT.ze ?_|(refine AtT.qW ?_)
  all_goals (refine AtT.zz ?_)
  all_goals (refine AtT.zh ?_)
  all_goals (first | refine AtT.kL 37 ?_ | refine AtT.zB (d := 37) rfl (fun hg37 => ?_) (fun hg37 => ?_) | refine AtT.zA (d := 37) rfl (fun hg37 => ?_) (fun hg37 => ?_))
  all_goals first|refine AtT.zf ?_|refine AtT.ze ?_|(refine AtT.zh ?_)
  all_goals first|refine AtT.zf ?_|refine AtT.ze ?_|(first | refine AtT.zi zy ?_ | with_reducible refine AtT.zk zy ?_ | refine AtT.zn zy ?_)
  all_goals first|refine AtT.zf ?_|refine AtT.ze ?_|(first | refine AtT.zm tk3 ?_ | refine AtT.zo tk3 ?_)
  all_goals first|refine AtT.zf ?_|refine AtT.ze ?_|(first | refine AtT.qD ?_ | refine AtT.qE ?_)
  all_goals first|refine AtT.zf ?_|refine AtT.ze ?_|(first | refine AtT.zi zH ?_ | with_reducible refine AtT.zk zH ?_ | refine AtT.zn zH ?_)
  all_goals first|refine AtT.zf ?_|refine AtT.ze ?_|(first | refine AtT.zm tk3 ?_ | refine AtT.zo tk3 ?_)
  all_goals first|refine AtT.zO ?_|refine AtT.zI ?_|((refine AtT.zu (zT _) ?_) ; (intro q44 V44 hV44 hq44) ; (have g44 : Le V V44 := by first | exact hV44 | exact Le.trans (by assumption) hV44))
  all_goals first|refine AtT.zO ?_|refine AtT.zI ?_|((refine AtT.zq rfl rfl jl (qi 0 (s.rows.length - p.h) [p.t] _ _ (Sl.lit hq44 rfl (by simp))) ?_) ; (rintro _ rfl; rw [jm, decide_eq_true m3]))
  all_goals first|refine AtT.zf ?_|refine AtT.ze ?_|(refine AtT.qW ?_)
  all_goals (refine AtT.zz ?_)
  all_goals (refine AtT.zh ?_)
  all_goals (first | refine AtT.kL 48 ?_ | refine AtT.zB (d := 48) rfl (fun hg48 => ?_) (fun hg48 => ?_) | refine AtT.zA (d := 48) rfl (fun hg48 => ?_) (fun hg48 => ?_))
  all_goals first|refine AtT.zf ?_|refine AtT.ze ?_|(refine AtT.zh ?_)
  all_goals first|refine AtT.zf ?_|refine AtT.ze ?_|(first | refine AtT.zi zx ?_ | with_reducible refine AtT.zk zx ?_ | refine AtT.zn zx ?_)
  all_goals first|refine AtT.zf ?_|refine AtT.ze ?_|(first | refine AtT.zm tk3 ?_ | refine AtT.zo tk3 ?_)
  all_goals first|refine AtT.zf ?_|refine AtT.ze ?_|(first | refine AtT.qD ?_ | refine AtT.qE ?_)
  all_goals first|refine AtT.zf ?_|refine AtT.ze ?_|(first | refine AtT.zi zG ?_ | with_reducible refine AtT.zk zG ?_ | refine AtT.zn zG ?_)
  all_goals first|refine AtT.zf ?_|refine AtT.ze ?_|(first | refine AtT.zm tk3 ?_ | refine AtT.zo tk3 ?_)
  all_goals first|refine AtT.zO ?_|refine AtT.zI ?_|((refine AtT.zu (zT _) ?_) ; (intro q55 V55 hV55 hq55) ; (have g55 : Le V V55 := by first | exact hV55 | exact Le.trans (by assumption) hV55))
  all_goals first|refine AtT.zO ?_|refine AtT.zI ?_|((refine AtT.zq rfl rfl jl (qi 0 (wdS s - p.w) [p.l] _ _ (Sl.lit hq55 rfl (by simp))) ?_) ; (rintro _ rfl; rw [jm, decide_eq_false m4]))
  all_goals first|refine AtT.zf ?_|refine AtT.ze ?_|(refine AtT.qW ?_)
  all_goals (refine AtT.zz ?_)
  all_goals refine AtT.done ?_
  all_goals (refine At.nrm ?_)
  refine At.qA rfl rfl ?_
  refine At.nrm ?_
  refine At.zl (.q 0 .done) ?_
  refine AtT.zg ?_
  refine AtT.done ?_
  refine At.nrm ?_
  exact At.qb rfl (.tmp rfl) (by unfold peE; rw [if_pos (by omega)])
 refine At.zl (.q 0 (.q 1 (.q 2 (.n false 3 (.n false 4 (.q 5 (.q 6 (.q 7 (.q 8 (.q 9 (.n false 10 (.n false 11 (.q 12 (.q 13 (.q 14 (.q 15 (.q 16 (.q 17 (.q 18 (.q 19 (.q 20 (.n false 21 (.n false 22 (.q 23 (.q 24 (.q 25 (.q 26 (.q 27 (.q 28 (.q 29 (.q 30 (.q 31 (.n false 32 (.n false 33 (.q 34 (.q 35 .done)))))))))))))))))))))))))))))))))))) ?_
 refine AtT.zh ?_
 first | refine AtT.zi zy ?_ | with_reducible refine AtT.zk zy ?_ | refine AtT.zn zy ?_
 first | refine AtT.zm tk3 ?_ | refine AtT.zo tk3 ?_
 refine AtT.zu (zT _) ?_
 intro q26 V26 hV26 hq26
 have g26 : Le V V26 := by first | exact hV26 | exact Le.trans (by assumption) hV26
 refine AtT.zq rfl rfl jl (qi 1 s.rows.length [p.h] _ _ (Sl.lit hq26 rfl (by simp))) ?_
 rintro _ rfl; rw [jm, decide_eq_true m1]
 refine AtT.qW ?_
 refine AtT.zh ?_
 all_goals (first | refine AtT.kL 29 ?_ | refine AtT.zB (d := 29) rfl (fun hg29 => ?_) (fun hg29 => ?_) | refine AtT.zA (d := 29) rfl (fun hg29 => ?_) (fun hg29 => ?_))
 all_goals first|refine AtT.zf ?_|refine AtT.ze ?_|(refine AtT.zh ?_)
 all_goals first|refine AtT.zf ?_|refine AtT.ze ?_|(first | refine AtT.zi zx ?_ | with_reducible refine AtT.zk zx ?_ | refine AtT.zn zx ?_)
 all_goals first|refine AtT.zf ?_|refine AtT.ze ?_|(first | refine AtT.zm tk3 ?_ | refine AtT.zo tk3 ?_)
 all_goals first|refine AtT.zO ?_|refine AtT.zI ?_|((refine AtT.zu (zT _) ?_) ; (intro q33 V33 hV33 hq33) ; (have g33 : Le V V33 := by first | exact hV33 | exact Le.trans (by assumption) hV33))
 all_goals first|refine AtT.zO ?_|refine AtT.zI ?_|((refine AtT.zq rfl rfl jl (qi 1 (wdS s) [p.w] _ _ (Sl.lit hq33 rfl (by simp))) ?_) ; (rintro _ rfl; rw [jm, decide_eq_true m2]))
 all_goals first|refine AtT.zf ?_|refine AtT.ze ?_|(refine AtT.qW ?_)
 all_goals (refine AtT.zz ?_)
 all_goals (refine AtT.zh ?_)
 all_goals (first | refine AtT.kL 37 ?_ | refine AtT.zB (d := 37) rfl (fun hg37 => ?_) (fun hg37 => ?_) | refine AtT.zA (d := 37) rfl (fun hg37 => ?_) (fun hg37 => ?_))
 all_goals first|refine AtT.zf ?_|refine AtT.ze ?_|(refine AtT.zh ?_)
 all_goals first|refine AtT.zf ?_|refine AtT.ze ?_|(first | refine AtT.zi zy ?_ | with_reducible refine AtT.zk zy ?_ | refine AtT.zn zy ?_)
 all_goals first|refine AtT.zf ?_|refine AtT.ze ?_|(first | refine AtT.zm tk3 ?_ | refine AtT.zo tk3 ?_)
 all_goals first|refine AtT.zf ?_|refine AtT.ze ?_|(first | refine AtT.qD ?_ | refine AtT.qE ?_)
 all_goals first|refine AtT.zf ?_|refine AtT.ze ?_|(first | refine AtT.zi zH ?_ | with_reducible refine AtT.zk zH ?_ | refine AtT.zn zH ?_)
 all_goals first|refine AtT.zf ?_|refine AtT.ze ?_|(first | refine AtT.zm tk3 ?_ | refine AtT.zo tk3 ?_)
 all_goals first|refine AtT.zO ?_|refine AtT.zI ?_|((refine AtT.zu (zT _) ?_) ; (intro q44 V44 hV44 hq44) ; (have g44 : Le V V44 := by first | exact hV44 | exact Le.trans (by assumption) hV44))
 all_goals first|refine AtT.zO ?_|refine AtT.zI ?_|((refine AtT.zq rfl rfl jl (qi 0 (s.rows.length - p.h) [p.t] _ _ (Sl.lit hq44 rfl (by simp))) ?_) ; (rintro _ rfl; rw [jm, decide_eq_true m3]))
 all_goals first|refine AtT.zf ?_|refine AtT.ze ?_|(refine AtT.qW ?_)
 all_goals (refine AtT.zz ?_)
 all_goals (refine AtT.zh ?_)
 all_goals (first | refine AtT.kL 48 ?_ | refine AtT.zB (d := 48) rfl (fun hg48 => ?_) (fun hg48 => ?_) | refine AtT.zA (d := 48) rfl (fun hg48 => ?_) (fun hg48 => ?_))
 all_goals first|refine AtT.zf ?_|refine AtT.ze ?_|(refine AtT.zh ?_)
 all_goals first|refine AtT.zf ?_|refine AtT.ze ?_|(first | refine AtT.zi zx ?_ | with_reducible refine AtT.zk zx ?_ | refine AtT.zn zx ?_)
 all_goals first|refine AtT.zf ?_|refine AtT.ze ?_|(first | refine AtT.zm tk3 ?_ | refine AtT.zo tk3 ?_)
 all_goals first|refine AtT.zf ?_|refine AtT.ze ?_|(first | refine AtT.qD ?_ | refine AtT.qE ?_)
 all_goals first|refine AtT.zf ?_|refine AtT.ze ?_|(first | refine AtT.zi zG ?_ | with_reducible refine AtT.zk zG ?_ | refine AtT.zn zG ?_)
 all_goals first|refine AtT.zf ?_|refine AtT.ze ?_|(first | refine AtT.zm tk3 ?_ | refine AtT.zo tk3 ?_)
 all_goals first|refine AtT.zO ?_|refine AtT.zI ?_|((refine AtT.zu (zT _) ?_) ; (intro q55 V55 hV55 hq55) ; (have g55 : Le V V55 := by first | exact hV55 | exact Le.trans (by assumption) hV55))
 all_goals first|refine AtT.zO ?_|refine AtT.zI ?_|((refine AtT.zq rfl rfl jl (qi 0 (wdS s - p.w) [p.l] _ _ (Sl.lit hq55 rfl (by simp))) ?_) ; (rintro _ rfl; rw [jm, decide_eq_true m4]))
 all_goals first|refine AtT.zf ?_|refine AtT.ze ?_|(refine AtT.qW ?_)
 all_goals (refine AtT.zz ?_)
 all_goals refine AtT.done ?_
 all_goals (refine At.nrm ?_)
 refine At.qX rfl rfl ?_
 obtain ⟨T, hT⟩ : ∃ T : Nat, p.t = (T : Int) := ⟨p.t.toNat, by omega⟩
 obtain ⟨L, hL⟩ : ∃ L : Nat, p.l = (L : Int) := ⟨p.l.toNat, by omega⟩
 obtain ⟨B, hB⟩ : ∃ B : Nat, p.t + p.h = (B : Int) := ⟨(p.t + p.h).toNat, by omega⟩
 obtain ⟨R, hRr⟩ : ∃ R : Nat, p.l + p.w = (R : Int) := ⟨(p.l + p.w).toNat, by omega⟩
 have g1 := fgF_at s (a := B) (b := R) (by omega) (by omega) (by omega) (by omega)
 have g2 := fgF_at s (a := T) (b := R) (by omega) (by omega) (by omega) (by omega)
 have g3 := fgF_at s (a := B) (b := L) (by omega) (by omega) (by omega) (by omega)
 have g4 := fgF_at s (a := T) (b := L) (by omega) (by omega) (by omega) (by omega)
 have k1 := fgN_le hok (a := B) (b := R) (by omega) (by omega)
 have k2 := fgN_le hok (a := T) (b := R) (by omega) (by omega)
 have k3 := fgN_le hok (a := B) (b := L) (by omega) (by omega)
 have k4 := fgN_le hok (a := T) (b := L) (by omega) (by omega)
 have hfs := fig_sums (s := s) (p := p) (by omega) (by omega) (by omega) (by omega)
 rw [hB, hRr, hT, hL, Int.toNat_natCast, Int.toNat_natCast, Int.toNat_natCast, Int.toNat_natCast] at hfs
 have hab := ar_bd (h := p.h) (w := p.w) (by omega) (by omega)
 have hfit : Fit (p.h * p.w) := Fit.of (by omega) (by omega)
 have hin : 1 ≤ p.h ∧ p.h ≤ (gdS s).R ∧ 1 ≤ p.w ∧ p.w ≤ (gdS s).C ∧ 0 ≤ p.t ∧ 0 ≤ p.l ∧ p.t ≤ (gdS s).R - p.h ∧ p.l ≤ (gdS s).C - p.w := by omega
 have c1 : ∀ V', Le V V' → Fnc Tryz.prog 88 [.pointer (some ⟨b, 0, none⟩), iv B, iv R] V' fun r _ => r = iv (fgN s.rows B R) := fun V' hV' => above_f _ b B R _ g1 (by omega) V' (hc3.le hV')
 have c2 : ∀ V', Le V V' → Fnc Tryz.prog 88 [.pointer (some ⟨b, 0, none⟩), iv p.t, iv R] V' fun r _ => r = iv (fgN s.rows T R) := fun V' hV' => by rw [hT]; exact above_f _ b T R _ g2 (by omega) V' (hc3.le hV')
 have c3 : ∀ V', Le V V' → Fnc Tryz.prog 88 [.pointer (some ⟨b, 0, none⟩), iv B, iv p.l] V' fun r _ => r = iv (fgN s.rows B L) := fun V' hV' => by rw [hL]; exact above_f _ b B L _ g3 (by omega) V' (hc3.le hV')
 have c4 : ∀ V', Le V V' → Fnc Tryz.prog 88 [.pointer (some ⟨b, 0, none⟩), iv p.t, iv p.l] V' fun r _ => r = iv (fgN s.rows T L) := fun V' hV' => by rw [hT, hL]; exact above_f _ b T L _ g4 (by omega) V' (hc3.le hV')
 refine At.nrm ?_
 refine At.jo (ι := Unit) (fun _ => [(0, .pointer (some ⟨b, 0, none⟩)), (3, .pointer (some ⟨b3, 0, none⟩)), (7, iv B), (8, iv R)]) (fun _ => [.blk b3 (LC (pce p) 26)]) (fun _ V'' => Le V V'') ?_ ?_
 ·refine At.draw (.q 0 (.q 1 (.q 2 (.q 3 (.q 4 (.q 5 (.q 6 (.q 7 (.q 8 (.q 9 (.q 10 (.q 11 .done)))))))))))) ffm (by kernel_rfl) ?_
  first | refine AtT.zi zH ?_ | with_reducible refine AtT.zk zH ?_ | refine AtT.zn zH ?_
  first | refine AtT.zm tk3 ?_ | refine AtT.zo tk3 ?_
  first | refine AtT.zi zy ?_ | with_reducible refine AtT.zk zy ?_ | refine AtT.zn zy ?_
  first | refine AtT.zm tk3 ?_ | refine AtT.zo tk3 ?_
  first | refine AtT.qj ?_ | refine AtT.zU ?_
  first | refine AtT.zi zG ?_ | with_reducible refine AtT.zk zG ?_ | refine AtT.zn zG ?_
  first | refine AtT.zm tk3 ?_ | refine AtT.zo tk3 ?_
  first | refine AtT.zi zx ?_ | with_reducible refine AtT.zk zx ?_ | refine AtT.zn zx ?_
  first | refine AtT.zm tk3 ?_ | refine AtT.zo tk3 ?_
  first | refine AtT.qj ?_ | refine AtT.zU ?_
  refine AtT.zg ?_
  refine AtT.zg ?_
  refine AtT.done ?_
  refine At.nrm ?_
  all_goals (rw [hB, hRr]; exact At.qC () (by first | exact Le.refl _ | assumption | exact Le.trans (by assumption) (by assumption)) ⟨rfl, rfl, rfl, rfl, trivial⟩ Pt.zM)
 rintro _ V2 ks' O' hVV hk hO hl2
 subst hk hO
 refine At.nrm ?_
 refine At.jo (ι := Unit) (fun _ => [(0, .pointer (some ⟨b, 0, none⟩)), (3, .pointer (some ⟨b3, 0, none⟩)), (100, .bool (hasF (gdS s) p))]) (fun _ => [.blk b3 (LC (pce p) 26)]) (fun _ V'' => Le V V'') ?_ ?_
 ·by_cases hz : fgF s = List.replicate 49 0
  ·have hF := fgF_zero hok hz (p := p) (by omega) (by omega) (by omega) (by omega) (by omega) (by omega)
   rw [hF]
   refine At.draw (.q 0 (.q 1 (.q 2 (.q 3 (.q 4 (.q 5 (.q 6 (.q 7 (.q 8 (.q 9 (.q 11 (.q 12 (.q 13 (.q 14 (.q 17 (.q 18 (.q 19 (.q 20 (.q 23 (.q 24 (.q 25 (.q 26 (.q 27 (.n false 10 (.n false 15 (.q 16 (.n false 21 (.q 22 (.n false 28 (.q 29 (.q 30 (.q 31 .done)))))))))))))))))))))))))))))))) ffm (by kernel_rfl) ?_
   refine AtT.zh ?_
   refine AtT.knil ?_
   first | refine AtT.zi jk ?_ | with_reducible refine AtT.zk jk ?_ | refine AtT.zn jk ?_
   refine AtT.zK tk86 ?_ (hc := hc3.le hVV) (hl := by rw [qV Lw.ei_len, fgF_len])
   refine AtT.ja (bd86) ?_
   refine AtT.kneS (eqS86 (fgF s) (List.replicate 49 0) (fgF_len s) rfl) ?_
   rw [decide_eq_true hz]
   refine AtT.zh ?_
   all_goals (first | refine AtT.kL 75 ?_ | refine AtT.zB (d := 75) rfl (fun hg75 => ?_) (fun hg75 => ?_) | refine AtT.zA (d := 75) rfl (fun hg75 => ?_) (fun hg75 => ?_))
   all_goals first|refine AtT.zf ?_|refine AtT.ze ?_|(refine AtT.zh ?_)
   all_goals first|refine AtT.zf ?_|refine AtT.ze ?_|(refine AtT.zh ?_)
   all_goals first|refine AtT.zf ?_|refine AtT.ze ?_|(refine AtT.zh ?_)
   all_goals first|refine AtT.zf ?_|refine AtT.ze ?_|(refine AtT.zh ?_)
   all_goals first|refine AtT.zf ?_|refine AtT.ze ?_|(first | refine AtT.zi zH ?_ | with_reducible refine AtT.zk zH ?_ | refine AtT.zn zH ?_)
   all_goals first|refine AtT.zf ?_|refine AtT.ze ?_|(first | refine AtT.zm tk3 ?_ | refine AtT.zo tk3 ?_)
   all_goals first|refine AtT.zf ?_|refine AtT.ze ?_|(refine AtT.zh ?_)
   all_goals first|refine AtT.zf ?_|refine AtT.ze ?_|(refine AtT.zh ?_)
   all_goals first|refine AtT.zf ?_|refine AtT.ze ?_|(refine AtT.zh ?_)
   all_goals first|refine AtT.zf ?_|refine AtT.ze ?_|(first | refine AtT.zi zG ?_ | with_reducible refine AtT.zk zG ?_ | refine AtT.zn zG ?_)
   all_goals first|refine AtT.zf ?_|refine AtT.ze ?_|(first | refine AtT.zm tk3 ?_ | refine AtT.zo tk3 ?_)
   all_goals first|refine AtT.zf ?_|refine AtT.ze ?_|(refine AtT.zh ?_)
   all_goals first|refine AtT.zf ?_|refine AtT.ze ?_|(first | refine AtT.zi zH ?_ | with_reducible refine AtT.zk zH ?_ | refine AtT.zn zH ?_)
   all_goals first|refine AtT.zf ?_|refine AtT.ze ?_|(first | refine AtT.zm tk3 ?_ | refine AtT.zo tk3 ?_)
   all_goals first|refine AtT.zf ?_|refine AtT.ze ?_|(first | refine AtT.zi zG ?_ | with_reducible refine AtT.zk zG ?_ | refine AtT.zn zG ?_)
   all_goals first|refine AtT.zf ?_|refine AtT.ze ?_|(first | refine AtT.zm tk3 ?_ | refine AtT.zo tk3 ?_)
   all_goals first|refine AtT.zO ?_|refine AtT.zI ?_|((fail))
   all_goals first|refine AtT.zO ?_|refine AtT.zI ?_|((fail))
   all_goals first|refine AtT.zf ?_|refine AtT.ze ?_|(first | refine AtT.qD ?_ | refine AtT.qE ?_)
   all_goals first|refine AtT.zO ?_|refine AtT.zI ?_|((fail))
   all_goals first|refine AtT.zf ?_|refine AtT.ze ?_|(first | refine AtT.qD ?_ | refine AtT.qE ?_)
   all_goals first|refine AtT.zO ?_|refine AtT.zI ?_|((fail))
   all_goals first|refine AtT.zf ?_|refine AtT.ze ?_|(first | refine AtT.qj ?_ | refine AtT.zU ?_)
   all_goals first|refine AtT.zf ?_|refine AtT.ze ?_|(refine AtT.qw ?_)
   all_goals (refine AtT.zz ?_)
   all_goals refine AtT.done ?_
   all_goals (refine At.nrm ?_)
   all_goals (exact At.qC () (by first | exact hVV | exact Le.trans hVV (by assumption)) ⟨rfl, rfl, rfl, trivial⟩ Pt.zM)
  ·have hF : decide (fgN s.rows B R - fgN s.rows T R - fgN s.rows B L + fgN s.rows T L > 0) = hasF (gdS s) p := by
    cases h : hasF (gdS s) p with
    | true => exact decide_eq_true (hfs.2 h)
    | false => exact decide_eq_false (fun hc => by rw [hfs.1 hc] at h; cases h)
   rw [← hF]
   refine At.draw (.q 0 (.q 1 (.q 2 (.q 3 (.q 4 (.q 5 (.q 6 (.q 7 (.q 8 (.q 9 (.q 11 (.q 12 (.q 13 (.q 14 (.q 17 (.q 18 (.q 19 (.q 20 (.q 23 (.q 24 (.q 25 (.q 26 (.q 27 (.n false 10 (.n false 15 (.q 16 (.n false 21 (.q 22 (.n false 28 (.q 29 (.q 30 (.q 31 .done)))))))))))))))))))))))))))))))) ffm (by kernel_rfl) ?_
   refine AtT.zh ?_
   refine AtT.knil ?_
   first | refine AtT.zi jk ?_ | with_reducible refine AtT.zk jk ?_ | refine AtT.zn jk ?_
   refine AtT.zK tk86 ?_ (hc := hc3.le hVV) (hl := by rw [qV Lw.ei_len, fgF_len])
   refine AtT.ja (bd86) ?_
   refine AtT.kneS (eqS86 (fgF s) (List.replicate 49 0) (fgF_len s) rfl) ?_
   rw [decide_eq_false hz]
   refine AtT.zh ?_
   all_goals (first | refine AtT.kL 75 ?_ | refine AtT.zB (d := 75) rfl (fun hg75 => ?_) (fun hg75 => ?_) | refine AtT.zA (d := 75) rfl (fun hg75 => ?_) (fun hg75 => ?_))
   all_goals first|refine AtT.zf ?_|refine AtT.ze ?_|(refine AtT.zh ?_)
   all_goals first|refine AtT.zf ?_|refine AtT.ze ?_|(refine AtT.zh ?_)
   all_goals first|refine AtT.zf ?_|refine AtT.ze ?_|(refine AtT.zh ?_)
   all_goals first|refine AtT.zf ?_|refine AtT.ze ?_|(refine AtT.zh ?_)
   all_goals first|refine AtT.zf ?_|refine AtT.ze ?_|(first | refine AtT.zi zH ?_ | with_reducible refine AtT.zk zH ?_ | refine AtT.zn zH ?_)
   all_goals first|refine AtT.zf ?_|refine AtT.ze ?_|(first | refine AtT.zm tk3 ?_ | refine AtT.zo tk3 ?_)
   all_goals first|refine AtT.zf ?_|refine AtT.ze ?_|(refine AtT.zh ?_)
   all_goals first|refine AtT.zf ?_|refine AtT.ze ?_|(refine AtT.zh ?_)
   all_goals first|refine AtT.zf ?_|refine AtT.ze ?_|(refine AtT.zh ?_)
   all_goals first|refine AtT.zf ?_|refine AtT.ze ?_|(first | refine AtT.zi zG ?_ | with_reducible refine AtT.zk zG ?_ | refine AtT.zn zG ?_)
   all_goals first|refine AtT.zf ?_|refine AtT.ze ?_|(first | refine AtT.zm tk3 ?_ | refine AtT.zo tk3 ?_)
   all_goals first|refine AtT.zf ?_|refine AtT.ze ?_|(refine AtT.zh ?_)
   all_goals first|refine AtT.zf ?_|refine AtT.ze ?_|(first | refine AtT.zi zH ?_ | with_reducible refine AtT.zk zH ?_ | refine AtT.zn zH ?_)
   all_goals first|refine AtT.zf ?_|refine AtT.ze ?_|(first | refine AtT.zm tk3 ?_ | refine AtT.zo tk3 ?_)
   all_goals first|refine AtT.zf ?_|refine AtT.ze ?_|(first | refine AtT.zi zG ?_ | with_reducible refine AtT.zk zG ?_ | refine AtT.zn zG ?_)
   all_goals first|refine AtT.zf ?_|refine AtT.ze ?_|(first | refine AtT.zm tk3 ?_ | refine AtT.zo tk3 ?_)
   all_goals first|refine AtT.zO ?_|refine AtT.zI ?_|((refine AtT.zq rfl rfl ok88 (c1 _ hVV) ?_) ; (rintro _ rfl))
   all_goals first|refine AtT.zO ?_|refine AtT.zI ?_|((refine AtT.zq rfl rfl ok88 (c2 _ hVV) ?_) ; (rintro _ rfl))
   all_goals first|refine AtT.zf ?_|refine AtT.ze ?_|(first | refine AtT.qD ?_ | refine AtT.qE ?_)
   all_goals first|refine AtT.zO ?_|refine AtT.zI ?_|((refine AtT.zq rfl rfl ok88 (c3 _ hVV) ?_) ; (rintro _ rfl))
   all_goals first|refine AtT.zf ?_|refine AtT.ze ?_|(first | refine AtT.qD ?_ | refine AtT.qE ?_)
   all_goals first|refine AtT.zO ?_|refine AtT.zI ?_|((refine AtT.zq rfl rfl ok88 (c4 _ hVV) ?_) ; (rintro _ rfl))
   all_goals first|refine AtT.zf ?_|refine AtT.ze ?_|(first | refine AtT.qj ?_ | refine AtT.zU ?_)
   all_goals first|refine AtT.zf ?_|refine AtT.ze ?_|(refine AtT.qw ?_)
   all_goals (refine AtT.zz ?_)
   all_goals refine AtT.done ?_
   all_goals (refine At.nrm ?_)
   all_goals (exact At.qC () (by first | exact hVV | exact Le.trans hVV (by assumption)) ⟨rfl, rfl, rfl, trivial⟩ Pt.zM)
 rintro _ V3 ks' O' hV3 hk hO hl3
 subst hk hO
 have hc1' := hc1.le hV3
 cases hF : hasF (gdS s) p with
 | true =>
  refine At.qA rfl rfl ?_
  refine At.nrm ?_
  refine At.zl (.q 0 .done) ?_
  refine AtT.zg ?_
  refine AtT.done ?_
  refine At.nrm ?_
  exact At.qb rfl (.tmp rfl) (by unfold peE; rw [if_neg (by omega), if_pos hF])
 | false =>
  refine At.qX rfl rfl ?_
  refine At.nrm ?_
  refine At.jo (ι := Unit) (fun _ => [(111, .bool (decide (s.most < arP p)))]) (fun _ => []) (fun _ V'' => V3 = V'') ?_ ?_
  ·refine At.draw (.q 0 (.q 1 (.q 2 (.q 3 (.q 4 (.q 5 (.q 6 (.q 7 (.q 8 (.q 9 (.q 10 .done))))))))))) ffm (by kernel_rfl) ?_
   first | refine AtT.zi zy ?_ | with_reducible refine AtT.zk zy ?_ | refine AtT.zn zy ?_
   first | refine AtT.zm tk3 ?_ | refine AtT.zo tk3 ?_
   first | refine AtT.zi zx ?_ | with_reducible refine AtT.zk zx ?_ | refine AtT.zn zx ?_
   first | refine AtT.zm tk3 ?_ | refine AtT.zo tk3 ?_
   first | refine AtT.kmul ?_ | refine AtT.kmulW ?_
   refine AtT.zh ?_
   refine AtT.knil ?_
   first | refine AtT.zi fo88_0 ?_ | with_reducible refine AtT.zk fo88_0 ?_ | refine AtT.zn fo88_0 ?_
   first | refine AtT.zi zR ?_ | with_reducible refine AtT.zk zR ?_ | refine AtT.zn zR ?_
   first | refine AtT.zm tk3 ?_ | refine AtT.zo tk3 ?_
   refine AtT.qw ?_
   refine AtT.done ?_
   refine At.nrm ?_
   all_goals (exact At.qC () rfl ⟨rfl, trivial⟩ Pt.zM)
  rintro _ _ ks' O' rfl hk hO hl4
  subst hk hO
  refine At.qc rfl (fun hq => ?_) (fun hq => ?_)
  ·refine At.nrm ?_
   refine At.zl (.q 0 .done) ?_
   refine AtT.zg ?_
   refine AtT.done ?_
   refine At.nrm ?_
   exact At.qb rfl (.tmp rfl) (by unfold peE; rw [if_neg (by omega), if_neg (by rw [hF]; simp), if_pos (by rw [hM]; exact hq)])
  ·refine At.nrm ?_
   refine At.zl (.q 0 .done) ?_
   refine AtT.zg ?_
   refine AtT.done ?_
   refine At.nrm ?_
   exact At.qb rfl (.tmp rfl) (by unfold peE; rw [if_neg (by omega), if_neg (by rw [hF]; simp), if_neg (by rw [hM]; exact hq)])
end Go.Proofs.YtghomjjffllkeaaGreatDoor
set_option linter.unusedVariables false
namespace Go.Pm
open Go.Gl Go.Lw
theorem mnL_of {f : Cl → Int} {l : List Cl} (hl : l ≠ []) (h99 : ∀ k ∈ l, f k ≤ 99) {m : Int} (hm : m ∈ l.map f) (hx : ∀ x ∈ l.map f, m ≤ x) : m = mnL f l := by
 obtain ⟨k, hk, he⟩ := mnL_at hl h99
 obtain ⟨q, hq, rfl⟩ := List.mem_map.1 hm
 have h1 := hx (f k) (List.mem_map_of_mem hk)
 have h2 := mnL_le (f := f) hq
 omega
theorem mxL_of {f : Cl → Int} {l : List Cl} (hl : l ≠ []) (h99 : ∀ k ∈ l, -1 ≤ f k) {m : Int} (hm : m ∈ l.map f) (hx : ∀ x ∈ l.map f, x ≤ m) : m = mxL f l := by
 obtain ⟨k, hk, he⟩ := mxL_at hl h99
 obtain ⟨q, hq, rfl⟩ := List.mem_map.1 hm
 have h1 := hx (f k) (List.mem_map_of_mem hk)
 have h2 := mxL_ge (f := f) hq
 omega
theorem selK_le {α : Type} (K : List α) (b : Nat) : ∀ n, (jb K b n).length ≤ n
 | 0 => Nat.le_refl _
 | n + 1 => by
  have ih := selK_le K b n
  cases c : K[n]? with
  | none => simp only [jb, c]; omega
  | some x =>
   rw [selK_at c]
   split
   ·rw [List.length_append, List.length_singleton]; omega
   ·omega
end Go.Pm
namespace Go.Proofs.YtghomjjffllkeaaGreatDoor
open Go.Lw Go.Gl Go.Pm Go.RowKit
abbrev stv (s : Nat) : Value := .agg #[iv (s : Int)]
theorem max_f (l : List Int) (hl : l ≠ []) (V : View) (v : Value) (hs : SlI V v l) : Fnc Tryz.prog 123 [v] V fun r _ => ∃ m, r = iv m ∧ m ∈ l ∧ ∀ x ∈ l, x ≤ m := by
 have hlen := hs.jf
 have hpos : 0 < l.length := List.length_pos_iff.2 hl
 obtain ⟨a, c, rfl, k1, k2, _⟩ := id hs
 clear k1 k2
 refine qh Tryz.func123 rfl Tryz.ntmps123 (Nat.le_of_ble_eq_true rfl) ?_
 intro w0 hw0
 refine At.nrm ?_
 refine At.zl (.q 0 .done) ?_
 refine AtT.zg ?_
 refine AtT.done ?_
 refine At.nrm ?_
 refine At.zl (.q 0 (.q 1 (.q 2 .done))) ?_
 refine AtT.zh ?_
 first | refine AtT.zZ Tryz.underlying39 ?_ | refine AtT.qa Tryz.underlying39 ?_
 refine AtT.zY ?_
 refine AtT.done ?_
 refine At.nrm ?_
 refine At.qX rfl (decide_eq_false (by omega)) ?_
 refine At.nrm ?_
 refine At.zl (.q 0 (.q 1 (.q 2 (.q 3 .done)))) ?_
 refine AtT.zh ?_
 refine AtT.qo Tryz.underlying39 tk3 ?_
 intro p10 e10 he10 hc10
 first | refine AtT.zm tk3 ?_ | refine AtT.zo tk3 ?_
 refine AtT.zg ?_
 refine AtT.done ?_
 refine At.nrm ?_
 have hm0 : e10 ∈ l := List.mem_of_getElem? he10
 have h0 : l[0]? = some e10 := by simpa using he10
 refine At.zl (.q 0 .done) ?_
 refine AtT.zg ?_
 refine AtT.done ?_
 refine At.nrm ?_
 refine At.lp (ι := Nat × Int) (KS := fun g => [(0, .slice a l.length c), (3, iv g.2), (4, iv g.1)]) (OS := fun _ => []) (VS := fun g V' => V' = V ∧ g.1 ≤ l.length ∧ g.2 ∈ l ∧ ∀ (j : Nat) (x : Int), j < g.1 → l[j]? = some x → x ≤ g.2) (μ := fun g => l.length - g.1) (1, e10) ?_ ?_ ?_ ?_
 ·exact ⟨rfl, rfl, rfl, trivial⟩
 ·exact Pt.zM
 ·refine ⟨rfl, hpos, hm0, fun j x hj hx => ?_⟩
  obtain rfl : j = 0 := by dsimp only at hj; omega
  rw [h0] at hx; cases hx; exact Int.le_refl _
 ·rintro ⟨k, m⟩ V' ks' O' ⟨rfl, hkl, hm, hok⟩ hk hO hl2
  dsimp only at hkl hm hok hk hO
  subst hk hO
  refine At.nrm ?_
  refine At.zl (.q 0 (.q 1 (.q 2 (.q 3 .done)))) ?_
  refine AtT.zh ?_
  refine AtT.zh ?_
  first | refine AtT.zZ Tryz.underlying39 ?_ | refine AtT.qa Tryz.underlying39 ?_
  refine AtT.zY ?_
  refine AtT.done ?_
  refine At.nrm ?_
  refine At.qc rfl (fun hp => ?_) (fun hp => ?_)
  ·obtain ⟨x, hx⟩ : ∃ x, l[k]? = some x := ⟨_, List.getElem?_eq_getElem (by omega)⟩
   refine At.nrm ?_
   refine At.zl (.q 0 (.q 1 (.q 2 (.q 3 (.q 4 (.q 5 (.q 6 .done))))))) ?_
   refine AtT.zh ?_
   refine AtT.zh ?_
   refine AtT.zh ?_
   refine AtT.qo Tryz.underlying39 tk3 ?_
   intro p21 e21 he21 hc21
   obtain rfl : e21 = x := by have : l[k]? = some e21 := (by simpa using he21); rw [hx] at this; simpa using this.symm
   first | refine AtT.zm tk3 ?_ | refine AtT.zo tk3 ?_
   refine AtT.kmax2 ?_
   refine AtT.zg ?_
   refine AtT.done ?_
   refine At.nrm ?_
   refine At.zl (.q 0 (.q 1 (.q 2 .done))) ?_
   refine AtT.zh ?_
   first | refine AtT.qj ?_ | refine AtT.zU ?_
   refine AtT.zg ?_
   refine AtT.done ?_
   refine At.nrm ?_
   refine At.round (k + 1, max m e21) ?_ ?_ ?_ ?_
   ·show l.length - (k + 1) < l.length - k; omega
   ·refine ⟨rfl, by dsimp only; omega, ?_, fun j y hj hy => ?_⟩
    ·show max m e21 ∈ l
     by_cases c : m ≤ e21
     ·rw [Int.max_eq_right c]; exact List.mem_of_getElem? hx
     ·rw [Int.max_eq_left (by omega)]; exact hm
    ·show y ≤ max m e21
     dsimp only at hj
     by_cases hjk : j = k
     ·subst hjk; rw [hx] at hy; cases hy; omega
     ·have := hok j y (by omega) hy; omega
   ·exact ⟨rfl, rfl, ivs (by dsimp only; omega), trivial⟩
   ·exact Pt.zM
  ·obtain rfl : k = l.length := by omega
   refine At.nrm ?_
   refine At.zl (.q 0 (.q 1 .done)) ?_
   refine AtT.zh ?_
   refine AtT.zg ?_
   refine AtT.done ?_
   refine At.nrm ?_
   exact At.qb rfl (.tmp rfl) ⟨m, rfl, hm, fun x hx => by obtain ⟨j, hj, rfl⟩ := List.getElem_of_mem hx; exact hok j _ hj (List.getElem?_eq_getElem hj)⟩
theorem kn_bd {s : Sh} (hok : ShOk s) : ∀ k ∈ knL s, 0 ≤ k.r ∧ k.r ≤ 99 ∧ 0 ≤ k.c ∧ k.c ≤ 99 := fun k hk => by
 have h := kn_on hok k hk
 have hn := hok.n
 have hw := hok.w
 have hR : (gdS s).R = (s.rows.length : Int) := rfl
 have hC : (gdS s).C = (wdS s : Int) := rfl
 obtain ⟨h1, h2, h3, h4⟩ := h
 omega
theorem least_f (s : Sh) (hok : ShOk s) (h10 : (knL s).length ≤ 10) (n : Nat) (hn : n < 9223372036854775808) (hne : sel (knL s) n ≠ []) (V : View) (b : Nat) (hb : BnV V b s) : Fnc Tryz.prog 93 [.pointer (some ⟨b, 0, none⟩), stv n] V fun r _ => r = pcv (bbx (sel (knL s) n)) := by
 obtain ⟨a, c, ak, ck, hc0, hc1, hc2, hc3, hs, hsk⟩ := bn_get hb
 have hK := kn_bd hok
 have hsel : ∀ i, ∀ k ∈ jb (knL s) n i, 0 ≤ k.r ∧ k.r ≤ 99 ∧ 0 ≤ k.c ∧ k.c ≤ 99 := fun i k hk => by
  obtain ⟨j, _, h1, _⟩ := (selK_mem i).1 hk
  exact hK k (List.mem_of_getElem? h1)
 refine qh Tryz.func93 rfl Tryz.ntmps93 (Nat.le_of_ble_eq_true rfl) ?_
 intro w0 hw0
 refine At.nrm ?_
 refine At.zl (.n false 0 (.n false 1 .done)) ?_
 refine AtT.qZ ?_
 intro b3
 refine AtT.qx z26 ?_
 intro b4
 refine AtT.done ?_
 refine At.nrm ?_
 refine At.zl (.q 0 (.q 1 .done)) ?_
 refine AtT.zg ?_
 refine AtT.zg ?_
 refine AtT.done ?_
 refine At.nrm ?_
 refine At.zl (.q 0 (.q 1 (.q 2 (.q 3 (.q 4 (.q 5 .done)))))) ?_
 refine AtT.zh ?_
 refine AtT.knil ?_
 first | refine AtT.zi qp ?_ | with_reducible refine AtT.zk qp ?_ | refine AtT.zn qp ?_
 first | refine AtT.zm tk84 ?_ | refine AtT.zo tk84 ?_
 first | refine AtT.zZ Tryz.underlying84 ?_ | refine AtT.qa Tryz.underlying84 ?_
 refine AtT.zh ?_
 refine AtT.done ?_
 refine At.nrm ?_
 refine At.lp (ι := Nat × (Option Addr × Nat) × Option Addr × Nat) (KS := fun g => [(0, .pointer (some ⟨b, 0, none⟩)), (3, .pointer (some ⟨b3, 0, none⟩)), (4, .pointer (some ⟨b4, 0, none⟩)), (14, .slice ak (knL s).length ck), (15, iv (knL s).length), (16, iv g.1), (5, .slice g.2.1.1 ((jb (knL s) n g.1).map (·.r)).length g.2.1.2), (6, .slice g.2.2.1 ((jb (knL s) n g.1).map (·.c)).length g.2.2.2)])
  (OS := fun _ => [.blk b3 (LC [iv n] 129), .blk b4 (LC (pce ⟨0, 0, 0, 0⟩) 26)])
  (VS := fun g V' => Le V V' ∧ g.1 ≤ (knL s).length ∧ SlI V' (.slice g.2.1.1 ((jb (knL s) n g.1).map (·.r)).length g.2.1.2) ((jb (knL s) n g.1).map (·.r)) ∧ SlI V' (.slice g.2.2.1 ((jb (knL s) n g.1).map (·.c)).length g.2.2.2) ((jb (knL s) n g.1).map (·.c))) (μ := fun g => (knL s).length - g.1) (0, (none, 0), none, 0) ?_ ?_ ?_ ?_
 ·exact ⟨rfl, rfl, rfl, rfl, rfl, rfl, rfl, rfl, trivial⟩
 ·exact Pt.zM
 ·exact ⟨Le.refl _, Nat.zero_le _, Sl.nil _ _ _, Sl.nil _ _ _⟩
 rintro ⟨i, ⟨a5, c5⟩, a6, c6⟩ V' ks' O' ⟨hVV, hil, hs5, hs6⟩ hk hO hl2
 dsimp only at hil hk hO hs5 hs6
 subst hk hO
 have hsk2 := hsk.le hVV
 refine At.nrm ?_
 refine At.zl (.q 0 .done) ?_
 refine AtT.zY ?_
 refine AtT.done ?_
 refine At.nrm ?_
 refine At.qc rfl (fun hp => ?_) (fun hp => ?_)
 rotate_left
 ·obtain rfl : i = (knL s).length := by omega
  have hA : (sel (knL s) n).map (·.r) ≠ [] := by simpa using hne
  have hB : (sel (knL s) n).map (·.c) ≠ [] := by simpa using hne
  have b1 := mnL_bd (f := (·.r)) (l := sel (knL s) n) fun k hk => (hsel _ k hk).1
  have b2 := mnL_bd (f := (·.c)) (l := sel (knL s) n) fun k hk => (hsel _ k hk).2.2.1
  have b3' := mxL_bd (f := (·.r)) (l := sel (knL s) n) fun k hk => (hsel _ k hk).2.1
  have b4' := mxL_bd (f := (·.c)) (l := sel (knL s) n) fun k hk => (hsel _ k hk).2.2.2
  refine At.nrm ?_
  refine At.zl (.q 0 (.n false 1 (.q 2 (.n false 3 (.q 4 (.q 5 .done)))))) ?_
  refine AtT.zh ?_
  refine AtT.zq rfl rfl ok122 (min_f _ hA _ _ hs5) ?_
  rintro _ ⟨m1, rfl, hm1, hx1⟩; obtain rfl := mnL_of (f := fun x => x.r) hne (fun k hk => (hsel _ k hk).2.1) hm1 hx1
  refine AtT.zh ?_
  refine AtT.zq rfl rfl ok122 (min_f _ hB _ _ hs6) ?_
  rintro _ ⟨m2, rfl, hm2, hx2⟩; obtain rfl := mnL_of (f := fun x => x.c) hne (fun k hk => (hsel _ k hk).2.2.2) hm2 hx2
  refine AtT.zg ?_
  refine AtT.zg ?_
  refine AtT.done ?_
  refine At.nrm ?_
  refine At.nrm ?_
  refine At.zl (.q 0 (.q 1 (.q 2 (.n false 3 (.q 4 (.q 5 (.q 6 (.q 7 (.n false 8 (.q 9 (.q 10 (.q 11 (.q 12 (.n true 13 .done)))))))))))))) ?_
  refine AtT.zh ?_
  refine AtT.zh ?_
  refine AtT.zh ?_
  refine AtT.zq rfl rfl ok123 (max_f _ hA _ _ hs5) ?_
  rintro _ ⟨m3, rfl, hm3, hx3⟩; obtain rfl := mxL_of (f := fun x => x.r) hne (fun k hk => by have := (hsel _ k hk).1; omega) hm3 hx3
  refine AtT.zh ?_
  first | refine AtT.qD ?_ | refine AtT.qE ?_
  first | refine AtT.qj ?_ | refine AtT.zU ?_
  refine AtT.zh ?_
  refine AtT.zq rfl rfl ok123 (max_f _ hB _ _ hs6) ?_
  rintro _ ⟨m4, rfl, hm4, hx4⟩; obtain rfl := mxL_of (f := fun x => x.c) hne (fun k hk => by have := (hsel _ k hk).2.2.1; omega) hm4 hx4
  refine AtT.zh ?_
  first | refine AtT.qD ?_ | refine AtT.qE ?_
  first | refine AtT.qj ?_ | refine AtT.zU ?_
  refine AtT.ja (bd26_0_1_2_3 _ _ _ _) ?_
  refine AtT.zW zS ?_
  refine AtT.done ?_
  refine At.nrm ?_
  exact At.qb rfl (.agg rfl zS zX.zM rfl) rfl
 obtain ⟨x, hx⟩ : ∃ x, (knL s)[i]? = some x := ⟨_, List.getElem?_eq_getElem (by omega)⟩
 have hat := selK_at (b := n) hx
 have hshr : n >>> i < 9223372036854775808 := Nat.lt_of_le_of_lt (Nat.shiftRight_le _ _) hn
 have hsl := selK_le (knL s) n i
 have hl5 : ((jb (knL s) n i).map (·.r)).length ≤ 10 := by rw [List.length_map]; omega
 have hl6 : ((jb (knL s) n i).map (·.c)).length ≤ 10 := by rw [List.length_map]; omega
 refine At.nrmB ?_
 refine At.jo (ι := (Option Addr × Nat) × Option Addr × Nat) (fun g => [(0, .pointer (some ⟨b, 0, none⟩)), (3, .pointer (some ⟨b3, 0, none⟩)), (4, .pointer (some ⟨b4, 0, none⟩)), (14, .slice ak (knL s).length ck), (15, iv (knL s).length), (16, iv i), (5, .slice g.1.1 ((jb (knL s) n (i + 1)).map (·.r)).length g.1.2), (6, .slice g.2.1 ((jb (knL s) n (i + 1)).map (·.c)).length g.2.2)])
  (fun _ => [.blk b3 (LC [iv n] 129), .blk b4 (LC (pce ⟨0, 0, 0, 0⟩) 26)])
  (fun g V'' => Le V' V'' ∧ SlI V'' (.slice g.1.1 ((jb (knL s) n (i + 1)).map (·.r)).length g.1.2) ((jb (knL s) n (i + 1)).map (·.r)) ∧ SlI V'' (.slice g.2.1 ((jb (knL s) n (i + 1)).map (·.c)).length g.2.2) ((jb (knL s) n (i + 1)).map (·.c))) ?_ ?_
 ·refine At.nrm ?_
  refine At.zl (.q 0 (.q 1 (.q 2 (.n false 3 (.q 4 (.n true 5 .done)))))) ?_
  refine AtT.zh ?_
  refine AtT.qo Tryz.underlying84 tk90 ?_
  intro p19 e19 he19 hc19
  first | refine AtT.zD tk90 ?_ | refine AtT.zK tk90 ?_ | refine AtT.zC tk90 ?_
  obtain rfl : x = e19 := by have : (knL s)[i]? = some e19 := (by simpa using he19); rw [hx] at this; simpa using this
  refine AtT.qx z90 ?_
  intro b8
  refine AtT.zg ?_
  refine AtT.zW tk90 ?_
  refine AtT.done ?_
  refine At.nrm ?_
  by_cases hbit : n.testBit i = true
  ·rw [if_pos hbit] at hat
   rw [hat]
   refine At.nrm ?_
   refine At.zl (.q 0 (.q 1 (.q 2 (.q 3 (.q 4 (.q 5 .done)))))) ?_
   first | refine AtT.zi fo129_0 ?_ | with_reducible refine AtT.zk fo129_0 ?_ | refine AtT.zn fo129_0 ?_
   first | refine AtT.zm tk3 ?_ | refine AtT.zo tk3 ?_
   refine AtT.zh ?_
   refine AtT.shrN rfl trivial rfl rfl rfl rfl (by omega) (by decide) (A := n) (N := i) ?_
   refine AtT.andN rfl trivial rfl rfl rfl rfl (by omega) (by decide) (by decide) (A := n >>> i) (B := 1) ?_
   refine AtT.keqI ?_
   refine AtT.qJ (d := 26) rfl (((bit_iff n i).2 hbit)) ?_
   refine AtT.done ?_
   refine At.nrm ?_
   refine At.qA rfl rfl ?_
   refine At.nrm ?_
   refine At.jo (ι := Option Addr × Nat) (fun g => [(0, .pointer (some ⟨b, 0, none⟩)), (3, .pointer (some ⟨b3, 0, none⟩)), (4, .pointer (some ⟨b4, 0, none⟩)), (8, .pointer (some ⟨b8, 0, none⟩)), (14, .slice ak (knL s).length ck), (15, iv (knL s).length), (16, iv i), (5, .slice g.1 ((jb (knL s) n i ++ [x]).map (·.r)).length g.2), (6, .slice a6 ((jb (knL s) n i).map (·.c)).length c6)])
    (fun _ => [.blk b3 (LC [iv n] 129), .blk b4 (LC (pce ⟨0, 0, 0, 0⟩) 26), .blk b8 (LC (cle x) 90)])
    (fun g V'' => Le V' V'' ∧ SlI V'' (.slice g.1 ((jb (knL s) n i ++ [x]).map (·.r)).length g.2) ((jb (knL s) n i ++ [x]).map (·.r))) ?_ ?_
   ·refine At.draw (.q 0 (.q 1 (.q 2 (.q 3 (.q 4 (.q 5 (.q 6 (.q 7 (.n false 8 (.n false 9 (.q 10 .done))))))))))) ffm (by kernel_rfl) ?_
    refine AtT.zh ?_
    refine AtT.zh ?_
    first | refine AtT.zZ Tryz.underlying39 ?_ | refine AtT.qa Tryz.underlying39 ?_
    refine AtT.zh ?_
    first | refine AtT.zZ Tryz.underlying39 ?_ | refine AtT.qa Tryz.underlying39 ?_
    first | refine AtT.kclipAll Tryz.underlying39 tk3 ?_ | refine AtT.kclip Tryz.underlying39 tk3 ?_
    intro a32 hs32
    first | refine AtT.zi fo90_0 ?_ | with_reducible refine AtT.zk fo90_0 ?_ | refine AtT.zn fo90_0 ?_
    first | refine AtT.zm tk3 ?_ | refine AtT.zo tk3 ?_
    refine AtT.zu (zT _) ?_
    intro q35 V35 hV35 hq35
    have g35 : Le V V35 := by first | exact hV35 | exact Le.trans (by assumption) hV35
    refine AtT.appendC rfl trivial Tryz.underlying39 rw3 rfl (by decide) rfl (by first | assumption | exact Sl.le (by assumption) (by assumption)) rfl rfl (by first | assumption | exact Cells.le (by assumption) (by assumption)) (fun _ => rfl) (by simp) (by unfold maxLen; simp only [List.length_cons, List.length_nil]; omega) (by simp only [List.length_cons, List.length_nil]; omega) (by decide) (enc := ei) (m := [x.r]) ?_
    intro a36 c36 V36 hV36 hs36
    have g36 : Le V V36 := by first | exact hV36 | exact Le.trans (by assumption) hV36
    refine AtT.zg ?_
    refine AtT.done ?_
    refine At.nrm ?_
    all_goals (rw [List.map_append] ; exact At.qC (a36, c36) ⟨by first | assumption | exact Le.trans (by assumption) (by assumption), by assumption⟩ ⟨rfl, rfl, rfl, rfl, rfl, rfl, rfl, rfl, rfl, trivial⟩ Pt.zM)
   rintro ⟨a9, c9⟩ V5 ks' O' ⟨hV5, hs9⟩ hk hO hl5
   dsimp only at hk hO hs9
   subst hk hO
   have hs6' := hs6.le hV5
   refine At.nrm ?_
   refine At.draw (.q 0 (.q 1 (.q 2 (.q 3 (.q 4 (.q 5 (.q 6 (.q 7 (.n false 8 (.n false 9 (.q 10 .done))))))))))) ffm (by kernel_rfl) ?_
   refine AtT.zh ?_
   refine AtT.zh ?_
   first | refine AtT.zZ Tryz.underlying39 ?_ | refine AtT.qa Tryz.underlying39 ?_
   refine AtT.zh ?_
   first | refine AtT.zZ Tryz.underlying39 ?_ | refine AtT.qa Tryz.underlying39 ?_
   first | refine AtT.kclipAll Tryz.underlying39 tk3 ?_ | refine AtT.kclip Tryz.underlying39 tk3 ?_
   intro a42 hs42
   first | refine AtT.zi fo90_1 ?_ | with_reducible refine AtT.zk fo90_1 ?_ | refine AtT.zn fo90_1 ?_
   first | refine AtT.zm tk3 ?_ | refine AtT.zo tk3 ?_
   refine AtT.zu (zT _) ?_
   intro q45 V45 hV45 hq45
   have g45 : Le V V45 := by first | exact hV45 | exact Le.trans (by assumption) hV45
   refine AtT.appendC rfl trivial Tryz.underlying39 rw3 rfl (by decide) rfl (by first | assumption | exact Sl.le (by assumption) (by assumption)) rfl rfl (by first | assumption | exact Cells.le (by assumption) (by assumption)) (fun _ => rfl) (by simp) (by unfold maxLen; simp only [List.length_cons, List.length_nil]; omega) (by simp only [List.length_cons, List.length_nil]; omega) (by decide) (enc := ei) (m := [x.c]) ?_
   intro a46 c46 V46 hV46 hs46
   have g46 : Le V V46 := by first | exact hV46 | exact Le.trans (by assumption) hV46
   refine AtT.zg ?_
   refine AtT.done ?_
   refine At.nrm ?_
   all_goals (rw [List.map_append (f := fun x : Cl => x.c)] ; exact At.qC ((a9, c9), a46, c46) ⟨hV5.trans (by first | assumption | exact Le.trans (by assumption) (by assumption)), hs9.le (by first | assumption | exact Le.trans (by assumption) (by assumption)), by assumption⟩ ⟨rfl, rfl, rfl, rfl, rfl, rfl, rfl, rfl, trivial⟩ Pt.zM)
  ·rw [if_neg hbit] at hat
   rw [hat]
   refine At.nrm ?_
   refine At.zl (.q 0 (.q 1 (.q 2 (.q 3 (.q 4 (.q 5 .done)))))) ?_
   first | refine AtT.zi fo129_0 ?_ | with_reducible refine AtT.zk fo129_0 ?_ | refine AtT.zn fo129_0 ?_
   first | refine AtT.zm tk3 ?_ | refine AtT.zo tk3 ?_
   refine AtT.zh ?_
   refine AtT.shrN rfl trivial rfl rfl rfl rfl (by omega) (by decide) (A := n) (N := i) ?_
   refine AtT.andN rfl trivial rfl rfl rfl rfl (by omega) (by decide) (by decide) (A := n >>> i) (B := 1) ?_
   refine AtT.keqI ?_
   refine AtT.qm (d := 26) rfl ((fun h => hbit ((bit_iff n i).1 h))) ?_
   refine AtT.done ?_
   refine At.nrm ?_
   refine At.qX rfl rfl ?_
   refine At.nrm ?_
   exact At.qC ((a5, c5), a6, c6) ⟨Le.refl _, hs5, hs6⟩ ⟨rfl, rfl, rfl, rfl, rfl, rfl, rfl, rfl, trivial⟩ Pt.zM
 rintro ⟨⟨a7, c7⟩, a8, c8⟩ V4 ks' O' ⟨hV4, hs7, hs8⟩ hk hO hl4
 dsimp only at hk hO hs7 hs8
 subst hk hO
 refine At.nrm ?_
 refine At.zl (.q 0 (.q 1 .done)) ?_
 first | refine AtT.qj ?_ | refine AtT.zU ?_
 refine AtT.zh ?_
 refine AtT.done ?_
 refine At.nrm ?_
 refine At.round (i + 1, (a7, c7), a8, c8) ?_ ?_ ?_ ?_
 ·show (knL s).length - (i + 1) < (knL s).length - i; omega
 ·exact ⟨hVV.trans hV4, by dsimp only; omega, hs7, hs8⟩
 ·exact ⟨rfl, rfl, rfl, rfl, rfl, ivs (by dsimp only; omega), rfl, rfl, trivial⟩
 ·exact Pt.zM
end Go.Proofs.YtghomjjffllkeaaGreatDoor
set_option linter.unusedVariables false
namespace Go.Pm
open Go.Gl Go.Lw
def wh (s : Sh) : List UInt8 := (s.rows.map bt).flatten
theorem dw_nil {α : Type} (p : α → Bool) : ∀ l : List α, l.dropWhile p = [] ↔ ∀ x ∈ l, p x = true
 | [] => by simp
 | x :: l => by
  have ih := dw_nil p l
  by_cases c : p x = true
  ·rw [List.dropWhile_cons_of_pos c, ih]; simp [c]
  ·rw [List.dropWhile_cons_of_neg c]
   constructor
   ·intro h; cases h
   ·intro h; exact absurd (h x (by simp)) c
theorem dw_head {α : Type} (p : α → Bool) : ∀ (l : List α) (x : α) (t : List α), l.dropWhile p = x :: t → p x = false
 | [], x, t, h => by cases h
 | y :: l, x, t, h => by
  by_cases c : p y = true
  ·rw [List.dropWhile_cons_of_pos c] at h; exact dw_head p l x t h
  ·rw [List.dropWhile_cons_of_neg c] at h; cases h; simpa using c
theorem trim_nil (l cs : List UInt8) : Lib.trimS l cs = [] ↔ ∀ b ∈ l, cs.contains b = true := by
 unfold Lib.trimS Lib.trimLeftS Lib.trimRightS
 rw [dw_nil]
 constructor
 ·intro h
  cases hX : l.reverse.dropWhile (cs.contains ·) with
  | nil =>
   rw [dw_nil] at hX
   intro b hb
   exact hX b (List.mem_reverse.2 hb)
  | cons x t =>
   have h1 : cs.contains x = true := h x (by rw [hX]; simp)
   have h2 := dw_head _ _ _ _ hX
   rw [h1] at h2; cases h2
 ·intro h x hx
  have hx' := List.mem_reverse.1 hx
  exact h x (List.mem_reverse.1 ((List.dropWhile_sublist _).subset hx'))
theorem ok_byte (b : UInt8) : ([46, 111, 35] : List UInt8).contains b = okC (b.toNat : Int) := by
 have hb : ∀ c : UInt8, b = c ↔ (b.toNat : Int) = (c.toNat : Int) := fun c => by
  rw [← UInt8.toNat_inj]; omega
 unfold okC
 have h1 := hb 46
 have h2 := hb 111
 have h3 := hb 35
 rw [Bool.eq_iff_iff, List.contains_iff_mem, decide_eq_true_eq]
 simp only [List.mem_cons, List.not_mem_nil, or_false]
 rw [h1, h2, h3]
 rfl
theorem wh_trim (s : Sh) : Lib.trimS (wh s) [46, 111, 35] = [] ↔ s.rows.all frR = true := by
 rw [trim_nil]
 unfold wh frR
 constructor
 ·intro h
  refine List.all_eq_true.2 fun r hr => List.all_eq_true.2 fun b hb => ?_
  rw [← ok_byte]
  exact h b (List.mem_flatten.2 ⟨bt r, List.mem_map_of_mem hr, hb⟩)
 ·intro h b hb
  obtain ⟨l, hl, hbl⟩ := List.mem_flatten.1 hb
  obtain ⟨r, hr, rfl⟩ := List.mem_map.1 hl
  rw [ok_byte]
  exact List.all_eq_true.1 (List.all_eq_true.1 h r hr) b hbl
theorem knR_count (r : ByteArray) (i : Nat) : ∀ n, n ≤ r.size → (knR r i n).length = ((bt r).take n).count 111
 | 0, _ => by simp [knR]
 | n + 1, h => by
  have ih := knR_count r i n (by omega)
  have hl : n < (bt r).length := by rw [bt_len]; omega
  have hv : bv r n = (((bt r)[n]).toNat : Int) := by unfold bv; simp [List.getD, List.getElem?_eq_getElem hl]
  rw [List.take_succ_eq_append_getElem hl, List.count_append, ← ih]
  simp only [knR]
  by_cases c : bv r n = 111
  ·rw [if_pos c, List.length_append]
   have : (bt r)[n] = 111 := by rw [← UInt8.toNat_inj]; rw [hv] at c; show (bt r)[n].toNat = 111; omega
   rw [this]; rfl
  ·rw [if_neg c]
   have : (bt r)[n] ≠ 111 := fun e => c (by rw [hv, e]; rfl)
   simp [List.count_cons, this]
theorem knK_count (rows : List ByteArray) : ∀ n, n ≤ rows.length → (knK rows n).length = (((rows.take n).map bt).flatten).count 111
 | 0, _ => by simp [knK]
 | n + 1, h => by
  have ih := knK_count rows n (by omega)
  have hr : rows[n]? = some rows[n] := List.getElem?_eq_getElem (by omega)
  rw [knK_at hr, List.length_append, ih, knR_count _ _ _ (Nat.le_refl _), List.take_succ_eq_append_getElem (by omega), List.map_append, List.flatten_append, List.count_append, ← bt_len, List.take_length]
  simp
theorem wh_count (s : Sh) : Lib.countByte (wh s) 111 = (knL s).length := by
 unfold Lib.countByte wh knL
 rw [knK_count _ _ (Nat.le_refl _), List.take_length]
theorem wh_len (s : Sh) (h : ∀ r ∈ s.rows, r.size ≤ 12) (hn : s.rows.length ≤ 10) : (wh s).length ≤ 120 := by
 have : ∀ l : List ByteArray, (∀ r ∈ l, r.size ≤ 12) → ((l.map bt).flatten).length ≤ 12 * l.length := by
  intro l
  induction l with
  | nil => simp
  | cons r l ih =>
   intro h
   have h1 := h r (by simp)
   have h2 := ih fun q hq => h q (by simp [hq])
   simp only [List.map_cons, List.flatten_cons, List.length_append, List.length_cons]
   rw [bt_len]; omega
 have := this s.rows h
 unfold wh; omega
end Go.Pm
set_option linter.unusedVariables false
namespace Go.Proofs.YtghomjjffllkeaaGreatDoor
open Go.Lw Go.Gl Go.Pm Go.RowKit Go.Shelf
theorem fnc_of {f : FuncId} {args : List Value} {V : View} {v : Value} (h : ∀ w, Le V (hp w) → Calls Tryz.prog f args.toArray w fun e w' => e = .returned v ∧ Below w.heap.size w w') : Fnc Tryz.prog f args V fun r _ => r = v := fun w hw =>
 (h w hw).mono fun e w' ⟨h1, h2⟩ => ⟨v, V, h1, h2, Le.refl _, hw.trans (Below.le h2), fun k o hk => .inl hk, rfl⟩
theorem spot_none {V : View} {p : Addr} {v : Value} (h : vcell V p = some v) : p.spot = none := by
 unfold vcell at h
 split at h
 ·cases c : p.spot with
  | none => rfl
  | some x => rw [c] at h; simp at h
 ·cases h
theorem join_f (l : List ByteArray) (h0 : l ≠ []) (hn : l.length ≤ 10) (h12 : ∀ r ∈ l, r.size ≤ 12) (V : View) (v : Value) (hs : Sl V bse 1 v l) : Fnc Tryz.prog 84 [v, .string ByteArray.empty] V fun r _ => r = .string ⟨((l.map bt).flatten).toArray⟩ := by
 obtain ⟨a, c, rfl, hc, _, ha, hcl⟩ := id hs
 obtain ⟨p, rfl⟩ := Option.isSome_iff_exists.1 (ha h0)
 have hcell : ∀ (j : Nat) x, l[j]? = some x → vcell V (p.add j) = some (.string x) := fun j x hj => by
  have := hcl p rfl j x hj 0 (.string x) rfl
  rw [Nat.mul_one] at this
  exact this
 obtain ⟨x0, t, rfl⟩ : ∃ x t, l = x :: t := by cases l with | nil => exact absurd rfl h0 | cons x t => exact ⟨x, t, rfl⟩
 have hsp : p.spot = none := spot_none (p := p.add 0) (hcell 0 x0 rfl)
 obtain ⟨b, o, sp⟩ := p
 dsimp only at hsp
 subst hsp
 have hj : Lib.join ((x0 :: t).map (·.data.toList)) (ByteArray.empty.data.toList) = ((x0 :: t).map bt).flatten := by
  show Lib.join (bt x0 :: t.map bt) [] = _
  rw [Lib.join_cons]
  show bt x0 ++ ((t.map bt).map fun x : List UInt8 => [] ++ x).flatten = _
  rw [show (fun x : List UInt8 => [] ++ x) = id from rfl, List.map_id]
  rfl
 refine fnc_of fun w hw => ?_
 have := Any.strings_Join lay_join str_ext b o c (x0 :: t) ByteArray.empty w (fun j x hj => by
  have h := vcell_le hw (hcell j x hj)
  rw [vcell_hp, Addr.add_lit] at h
  exact h) (by
   have h := vcell_le hw (hcell 0 x0 rfl)
   rw [vcell_hp, Addr.add_lit] at h
   cases hb : w.heap[b]? with
   | none => simp [World.cell?, hb] at h
   | some o => exact (Array.getElem?_eq_some_iff.1 hb).1) (by omega) hc (by
   rw [hj]
   have := wh_len ⟨x0 :: t, 0⟩ h12 hn
   unfold wh at this
   exact Nat.le_trans this (by decide))
 rw [hj] at this
 exact this
theorem trim_f (s : ByteArray) (hs : s.size ≤ 9223372036854775807) (V : View) : Fnc Tryz.prog 85 [.string s, .string ⟨#[46, 111, 35]⟩] V fun r _ => r = .string ⟨(Lib.trimS (bt s) [46, 111, 35]).toArray⟩ :=
 fnc_of fun w hw => Any.strings_Trim_laid lay_trim (by kernel_rfl) s ⟨#[46, 111, 35]⟩ w hs (by decide) (ascii_of_all (by decide))
theorem count_f (s : ByteArray) (V : View) : Fnc Tryz.prog 86 [.string s, .string ⟨#[111]⟩] V fun r _ => r = iv (Lib.countByte (bt s) 111) :=
 fnc_of fun w hw => (Any.strings_Count_one lay_count s 111 w).mono fun e w' ⟨h1, h2⟩ => ⟨h1, h2 ▸ Below.refl _ _⟩
end Go.Proofs.YtghomjjffllkeaaGreatDoor
set_option linter.unusedVariables false
namespace Go.Proofs.YtghomjjffllkeaaGreatDoor
open Go.Lw Go.Gl Go.Pm Go.RowKit
abbrev vle (v : Value) : List Value := [v]
theorem index_b (g : FuncId) (cap : List Value) (p : ByteArray → Bool) (V : View) (vl : Value) (l : List (ByteArray)) (hs : Sl V bse 1 vl l) (hok : zL Tryz.prog g)
  (hc : ∀ x, x ∈ l → Fnc Tryz.prog g ([] ++ [.string x] ++ cap) V (fun v _ => v = .bool (p x))) :
  Fnc Tryz.prog 109 [vl, .func (.func g) #[] cap.toArray] V fun v _ => ∃ j : Int, v = iv j ∧ (decide (0 ≤ j)) = l.any p := by
 have hlen := hs.jf
 refine qh Tryz.func109 rfl Tryz.ntmps109 (Nat.le_of_ble_eq_true rfl) ?_
 intro w0 hw0
 refine At.nrm ?_
 refine At.zl (.q 0 .done) ?_
 refine AtT.zg ?_
 refine AtT.done ?_
 refine At.nrm ?_
 refine At.zl (.q 0 (.q 1 (.q 2 .done))) ?_
 refine AtT.zh ?_
 first | refine AtT.zZ Tryz.underlying22 ?_ | refine AtT.qa Tryz.underlying22 ?_
 refine AtT.zh ?_
 refine AtT.done ?_
 refine At.nrm ?_
 refine At.lp (ι := Nat) (KS := fun k => [(0, vl), (1, .func (.func g) #[] cap.toArray), (4, iv 0), (7, iv l.length), (8, iv k)]) (OS := fun _ => [])
  (VS := fun k V' => V' = V ∧ k ≤ l.length ∧ (l.take k).any p = false) (μ := fun k => l.length - k) 0 ?_ ?_ ?_ ?_
 ·exact ⟨rfl, rfl, rfl, rfl, rfl, trivial⟩
 ·exact Pt.zM
 ·exact ⟨rfl, Nat.zero_le _, rfl⟩
 ·rintro k V' ks' O' ⟨rfl, hkl, hany⟩ hk hO hl
  subst hk hO
  refine At.nrm ?_
  refine At.zl (.q 0 .done) ?_
  refine AtT.zY ?_
  refine AtT.done ?_
  refine At.nrm ?_
  refine At.qc rfl (fun hp => ?_) (fun hp => ?_)
  ·refine At.nrm ?_
   refine At.zl (.q 0 (.q 1 .done)) ?_
   refine AtT.zh ?_
   refine AtT.zg ?_
   refine AtT.done ?_
   refine At.nrm ?_
   refine At.zl (.q 0 (.q 1 (.q 2 (.q 3 (.q 4 (.n false 5 .done)))))) ?_
   refine AtT.zh ?_
   refine AtT.zh ?_
   refine AtT.zh ?_
   refine AtT.qo Tryz.underlying22 tk9 ?_
   intro p14 e14 he14 hc14
   first | refine AtT.zm tk9 ?_ | refine AtT.zo tk9 ?_
   refine AtT.kcallV rfl rfl rfl hok (hc e14 (List.mem_of_getElem? he14)) ?_
   rintro _ rfl
   refine AtT.done ?_
   refine At.nrm ?_
   have hee : l[k]? = some e14 := by simpa using he14
   have hnx : l.take (k + 1) = l.take k ++ [e14] := by
    rw [List.take_succ_eq_append_getElem (by omega)]; congr 1; rw [List.getElem?_eq_getElem (by omega)] at hee; simpa using hee
   refine At.cond rfl (fun hb => ?_) (fun hb => ?_)
   ·refine At.nrm ?_
    refine At.zl (.q 0 (.q 1 .done)) ?_
    refine AtT.zh ?_
    refine AtT.zg ?_
    refine AtT.done ?_
    refine At.nrm ?_
    refine At.qb rfl (.tmp rfl) ⟨k, rfl, ?_⟩
    have : l.any p = true := List.any_eq_true.2 ⟨e14, List.mem_of_getElem? hee, hb⟩
    rw [this]; simp
   ·refine At.nrm ?_
    refine At.zl (.q 0 (.q 1 .done)) ?_
    first | refine AtT.qj ?_ | refine AtT.zU ?_
    refine AtT.zh ?_
    refine AtT.done ?_
    refine At.nrm ?_
    refine At.round (k + 1) ?_ ?_ ?_ ?_
    ·show l.length - (k + 1) < l.length - k; omega
    ·refine ⟨rfl, by omega, ?_⟩
     rw [hnx, List.any_append, hany]; simp [hb]
    ·exact ⟨rfl, rfl, rfl, rfl, rfl, trivial⟩
    ·exact Pt.zM
  ·have hkk : k = l.length := by omega
   subst hkk
   rw [List.take_length] at hany
   refine At.nrm ?_
   refine At.zl (.q 0 .done) ?_
   refine AtT.zg ?_
   refine AtT.done ?_
   refine At.nrm ?_
   refine At.qb rfl (.tmp rfl) ⟨-1, rfl, ?_⟩
   rw [hany]; rfl
theorem contains_b (g : FuncId) (cap : List Value) (p : ByteArray → Bool) (V : View) (vl : Value) (l : List (ByteArray)) (hs : Sl V bse 1 vl l) (hok : zL Tryz.prog g)
  (hc : ∀ x, x ∈ l → Fnc Tryz.prog g ([] ++ [.string x] ++ cap) V (fun v _ => v = .bool (p x))) :
  Fnc Tryz.prog 82 [vl, .func (.func g) #[] cap.toArray] V fun v _ => v = .bool (l.any p) := by
 refine qh Tryz.func82 rfl Tryz.ntmps82 (Nat.le_of_ble_eq_true rfl) ?_
 intro w0 hw0
 refine At.nrm ?_
 refine At.zl (.q 0 .done) ?_
 refine AtT.zg ?_
 refine AtT.done ?_
 refine At.nrm ?_
 refine At.zl (.q 0 (.q 1 (.n false 2 (.q 3 (.q 4 .done))))) ?_
 refine AtT.zh ?_
 refine AtT.zh ?_
 refine AtT.zq rfl rfl ok109 (index_b g cap p V vl l hs hok hc) ?_
 rintro _ ⟨j, rfl, hj⟩
 refine AtT.kgeq ?_
 refine AtT.zg ?_
 refine AtT.done ?_
 refine At.nrm ?_
 refine At.qb rfl (.tmp rfl) ?_
 rw [hj]
theorem index_p (g : FuncId) (cap : List Value) (p : Pc → Bool) (V : View) (vl : Value) (l : List (Pc)) (hs : Sl V pce 4 vl l) (hok : zL Tryz.prog g)
  (hc : ∀ x, x ∈ l → Fnc Tryz.prog g ([] ++ [pcv x] ++ cap) V (fun v _ => v = .bool (p x))) :
  Fnc Tryz.prog 89 [vl, .func (.func g) #[] cap.toArray] V fun v _ => ∃ j : Int, v = iv j ∧ (decide (0 ≤ j)) = l.any p := by
 have hlen := hs.jf
 refine qh Tryz.func89 rfl Tryz.ntmps89 (Nat.le_of_ble_eq_true rfl) ?_
 intro w0 hw0
 refine At.nrm ?_
 refine At.zl (.q 0 .done) ?_
 refine AtT.zg ?_
 refine AtT.done ?_
 refine At.nrm ?_
 refine At.zl (.q 0 (.q 1 (.q 2 .done))) ?_
 refine AtT.zh ?_
 first | refine AtT.zZ Tryz.underlying27 ?_ | refine AtT.qa Tryz.underlying27 ?_
 refine AtT.zh ?_
 refine AtT.done ?_
 refine At.nrm ?_
 refine At.lp (ι := Nat) (KS := fun k => [(0, vl), (1, .func (.func g) #[] cap.toArray), (4, iv 0), (7, iv l.length), (8, iv k)]) (OS := fun _ => [])
  (VS := fun k V' => V' = V ∧ k ≤ l.length ∧ (l.take k).any p = false) (μ := fun k => l.length - k) 0 ?_ ?_ ?_ ?_
 ·exact ⟨rfl, rfl, rfl, rfl, rfl, trivial⟩
 ·exact Pt.zM
 ·exact ⟨rfl, Nat.zero_le _, rfl⟩
 ·rintro k V' ks' O' ⟨rfl, hkl, hany⟩ hk hO hl
  subst hk hO
  refine At.nrm ?_
  refine At.zl (.q 0 .done) ?_
  refine AtT.zY ?_
  refine AtT.done ?_
  refine At.nrm ?_
  refine At.qc rfl (fun hp => ?_) (fun hp => ?_)
  ·refine At.nrm ?_
   refine At.zl (.q 0 (.q 1 .done)) ?_
   refine AtT.zh ?_
   refine AtT.zg ?_
   refine AtT.done ?_
   refine At.nrm ?_
   refine At.zl (.q 0 (.q 1 (.q 2 (.q 3 (.q 4 (.n false 5 .done)))))) ?_
   refine AtT.zh ?_
   refine AtT.zh ?_
   refine AtT.zh ?_
   refine AtT.qo Tryz.underlying27 zS ?_
   intro p14 e14 he14 hc14
   first | refine AtT.zD zS ?_ | refine AtT.zK zS ?_ | refine AtT.zC zS ?_
   refine AtT.kcallV rfl rfl rfl hok (hc e14 (List.mem_of_getElem? he14)) ?_
   rintro _ rfl
   refine AtT.done ?_
   refine At.nrm ?_
   have hee : l[k]? = some e14 := by simpa using he14
   have hnx : l.take (k + 1) = l.take k ++ [e14] := by
    rw [List.take_succ_eq_append_getElem (by omega)]; congr 1; rw [List.getElem?_eq_getElem (by omega)] at hee; simpa using hee
   refine At.cond rfl (fun hb => ?_) (fun hb => ?_)
   ·refine At.nrm ?_
    refine At.zl (.q 0 (.q 1 .done)) ?_
    refine AtT.zh ?_
    refine AtT.zg ?_
    refine AtT.done ?_
    refine At.nrm ?_
    refine At.qb rfl (.tmp rfl) ⟨k, rfl, ?_⟩
    have : l.any p = true := List.any_eq_true.2 ⟨e14, List.mem_of_getElem? hee, hb⟩
    rw [this]; simp
   ·refine At.nrm ?_
    refine At.zl (.q 0 (.q 1 .done)) ?_
    first | refine AtT.qj ?_ | refine AtT.zU ?_
    refine AtT.zh ?_
    refine AtT.done ?_
    refine At.nrm ?_
    refine At.round (k + 1) ?_ ?_ ?_ ?_
    ·show l.length - (k + 1) < l.length - k; omega
    ·refine ⟨rfl, by omega, ?_⟩
     rw [hnx, List.any_append, hany]; simp [hb]
    ·exact ⟨rfl, rfl, rfl, rfl, rfl, trivial⟩
    ·exact Pt.zM
  ·have hkk : k = l.length := by omega
   subst hkk
   rw [List.take_length] at hany
   refine At.nrm ?_
   refine At.zl (.q 0 .done) ?_
   refine AtT.zg ?_
   refine AtT.done ?_
   refine At.nrm ?_
   refine At.qb rfl (.tmp rfl) ⟨-1, rfl, ?_⟩
   rw [hany]; rfl
theorem contains_p (g : FuncId) (cap : List Value) (p : Pc → Bool) (V : View) (vl : Value) (l : List (Pc)) (hs : Sl V pce 4 vl l) (hok : zL Tryz.prog g)
  (hc : ∀ x, x ∈ l → Fnc Tryz.prog g ([] ++ [pcv x] ++ cap) V (fun v _ => v = .bool (p x))) :
  Fnc Tryz.prog 59 [vl, .func (.func g) #[] cap.toArray] V fun v _ => v = .bool (l.any p) := by
 refine qh Tryz.func59 rfl Tryz.ntmps59 (Nat.le_of_ble_eq_true rfl) ?_
 intro w0 hw0
 refine At.nrm ?_
 refine At.zl (.q 0 .done) ?_
 refine AtT.zg ?_
 refine AtT.done ?_
 refine At.nrm ?_
 refine At.zl (.q 0 (.q 1 (.n false 2 (.q 3 (.q 4 .done))))) ?_
 refine AtT.zh ?_
 refine AtT.zh ?_
 refine AtT.zq rfl rfl ok89 (index_p g cap p V vl l hs hok hc) ?_
 rintro _ ⟨j, rfl, hj⟩
 refine AtT.kgeq ?_
 refine AtT.zg ?_
 refine AtT.done ?_
 refine At.nrm ?_
 refine At.qb rfl (.tmp rfl) ?_
 rw [hj]
theorem index_v (g : FuncId) (cap : List Value) (p : Value → Bool) (V : View) (vl : Value) (l : List (Value)) (hs : Sl V vle 1 vl l) (hok : zL Tryz.prog g)
  (hc : ∀ x, x ∈ l → Fnc Tryz.prog g ([] ++ [x] ++ cap) V (fun v _ => v = .bool (p x))) :
  Fnc Tryz.prog 124 [vl, .func (.func g) #[] cap.toArray] V fun v _ => ∃ j : Int, v = iv j ∧ (decide (0 ≤ j)) = l.any p := by
 have hlen := hs.jf
 refine qh Tryz.func124 rfl Tryz.ntmps124 (Nat.le_of_ble_eq_true rfl) ?_
 intro w0 hw0
 refine At.nrm ?_
 refine At.zl (.q 0 .done) ?_
 refine AtT.zg ?_
 refine AtT.done ?_
 refine At.nrm ?_
 refine At.zl (.q 0 (.q 1 (.q 2 .done))) ?_
 refine AtT.zh ?_
 first | refine AtT.zZ Tryz.underlying42 ?_ | refine AtT.qa Tryz.underlying42 ?_
 refine AtT.zh ?_
 refine AtT.done ?_
 refine At.nrm ?_
 refine At.lp (ι := Nat) (KS := fun k => [(0, vl), (1, .func (.func g) #[] cap.toArray), (4, iv 0), (7, iv l.length), (8, iv k)]) (OS := fun _ => [])
  (VS := fun k V' => V' = V ∧ k ≤ l.length ∧ (l.take k).any p = false) (μ := fun k => l.length - k) 0 ?_ ?_ ?_ ?_
 ·exact ⟨rfl, rfl, rfl, rfl, rfl, trivial⟩
 ·exact Pt.zM
 ·exact ⟨rfl, Nat.zero_le _, rfl⟩
 ·rintro k V' ks' O' ⟨rfl, hkl, hany⟩ hk hO hl
  subst hk hO
  refine At.nrm ?_
  refine At.zl (.q 0 .done) ?_
  refine AtT.zY ?_
  refine AtT.done ?_
  refine At.nrm ?_
  refine At.qc rfl (fun hp => ?_) (fun hp => ?_)
  ·refine At.nrm ?_
   refine At.zl (.q 0 (.q 1 .done)) ?_
   refine AtT.zh ?_
   refine AtT.zg ?_
   refine AtT.done ?_
   refine At.nrm ?_
   refine At.zl (.q 0 (.q 1 (.q 2 (.q 3 (.q 4 (.n false 5 .done)))))) ?_
   refine AtT.zh ?_
   refine AtT.zh ?_
   refine AtT.zh ?_
   refine AtT.qo Tryz.underlying42 tk39 ?_
   intro p14 e14 he14 hc14
   first | refine AtT.zm tk39 ?_ | refine AtT.zo tk39 ?_
   refine AtT.kcallV rfl rfl rfl hok (hc e14 (List.mem_of_getElem? he14)) ?_
   rintro _ rfl
   refine AtT.done ?_
   refine At.nrm ?_
   have hee : l[k]? = some e14 := by simpa using he14
   have hnx : l.take (k + 1) = l.take k ++ [e14] := by
    rw [List.take_succ_eq_append_getElem (by omega)]; congr 1; rw [List.getElem?_eq_getElem (by omega)] at hee; simpa using hee
   refine At.cond rfl (fun hb => ?_) (fun hb => ?_)
   ·refine At.nrm ?_
    refine At.zl (.q 0 (.q 1 .done)) ?_
    refine AtT.zh ?_
    refine AtT.zg ?_
    refine AtT.done ?_
    refine At.nrm ?_
    refine At.qb rfl (.tmp rfl) ⟨k, rfl, ?_⟩
    have : l.any p = true := List.any_eq_true.2 ⟨e14, List.mem_of_getElem? hee, hb⟩
    rw [this]; simp
   ·refine At.nrm ?_
    refine At.zl (.q 0 (.q 1 .done)) ?_
    first | refine AtT.qj ?_ | refine AtT.zU ?_
    refine AtT.zh ?_
    refine AtT.done ?_
    refine At.nrm ?_
    refine At.round (k + 1) ?_ ?_ ?_ ?_
    ·show l.length - (k + 1) < l.length - k; omega
    ·refine ⟨rfl, by omega, ?_⟩
     rw [hnx, List.any_append, hany]; simp [hb]
    ·exact ⟨rfl, rfl, rfl, rfl, rfl, trivial⟩
    ·exact Pt.zM
  ·have hkk : k = l.length := by omega
   subst hkk
   rw [List.take_length] at hany
   refine At.nrm ?_
   refine At.zl (.q 0 .done) ?_
   refine AtT.zg ?_
   refine AtT.done ?_
   refine At.nrm ?_
   refine At.qb rfl (.tmp rfl) ⟨-1, rfl, ?_⟩
   rw [hany]; rfl
theorem contains_v (g : FuncId) (cap : List Value) (p : Value → Bool) (V : View) (vl : Value) (l : List (Value)) (hs : Sl V vle 1 vl l) (hok : zL Tryz.prog g)
  (hc : ∀ x, x ∈ l → Fnc Tryz.prog g ([] ++ [x] ++ cap) V (fun v _ => v = .bool (p x))) :
  Fnc Tryz.prog 97 [vl, .func (.func g) #[] cap.toArray] V fun v _ => v = .bool (l.any p) := by
 refine qh Tryz.func97 rfl Tryz.ntmps97 (Nat.le_of_ble_eq_true rfl) ?_
 intro w0 hw0
 refine At.nrm ?_
 refine At.zl (.q 0 .done) ?_
 refine AtT.zg ?_
 refine AtT.done ?_
 refine At.nrm ?_
 refine At.zl (.q 0 (.q 1 (.n false 2 (.q 3 (.q 4 .done))))) ?_
 refine AtT.zh ?_
 refine AtT.zh ?_
 refine AtT.zq rfl rfl ok124 (index_v g cap p V vl l hs hok hc) ?_
 rintro _ ⟨j, rfl, hj⟩
 refine AtT.kgeq ?_
 refine AtT.zg ?_
 refine AtT.done ?_
 refine At.nrm ?_
 refine At.qb rfl (.tmp rfl) ?_
 rw [hj]
theorem open1_f (s : Sh) (hok : 1 ≤ s.rows.length) (r : ByteArray) (V : View) (q : Addr) (a : Option Addr) (c : Nat) (m : Int) (hq : Cells V q [.slice a s.rows.length c, iv m]) (hs : Sl V bse 1 (.slice a s.rows.length c) s.rows) : Fnc Tryz.prog 83 ([] ++ [.string r] ++ [.pointer (some q)]) V fun v _ => v = .bool (decide (r.size ≠ wdS s)) := by
 obtain ⟨r0, hr0⟩ : ∃ r, s.rows[0]? = some r := ⟨_, List.getElem?_eq_getElem (by omega)⟩
 have hw : wdS s = r0.size := by unfold wdS row0; simp [List.getD, hr0]
 refine qh Tryz.func83 rfl Tryz.ntmps83 (Nat.le_of_ble_eq_true rfl) ?_
 intro w0 hw0
 refine At.nrm ?_
 refine At.zl (.q 0 .done) ?_
 refine AtT.zg ?_
 refine AtT.done ?_
 refine At.nrm ?_
 refine At.zl (.q 0 (.q 1 (.q 2 (.q 3 (.q 4 (.q 5 (.q 6 (.q 7 (.q 8 .done))))))))) ?_
 refine AtT.zh ?_
 refine AtT.qL rfl trivial Tryz.underlying9 rfl (by decide) ?_
 first | refine AtT.zi zw ?_ | with_reducible refine AtT.zk zw ?_ | refine AtT.zn zw ?_
 first | refine AtT.zm zV ?_ | refine AtT.zo zV ?_
 refine AtT.qo Tryz.underlying22 tk9 ?_
 intro p8 e8 he8 hc8
 obtain rfl : r0 = e8 := by have : s.rows[0]? = some e8 := (by simpa using he8); rw [hr0] at this; simpa using this
 first | refine AtT.zm tk9 ?_ | refine AtT.zo tk9 ?_
 refine AtT.qL rfl trivial Tryz.underlying9 rfl (by decide) ?_
 refine AtT.qG ?_
 refine AtT.zg ?_
 refine AtT.done ?_
 refine At.nrm ?_
 refine At.qb rfl (.tmp rfl) ?_
 rw [hw]
 simp; omega
def OpR (s : Sh) (r : Value) (V' : View) : Prop := (chE s = 0 ∧ ∃ b, r = .tuple #[.pointer (some ⟨b, 0, none⟩), iv 0] ∧ BnV V' b s) ∨ (chE s ≠ 0 ∧ r = .tuple #[.pointer none, iv (chE s)])
theorem open_f (s : Sh) (V : View) (v : Value) (hv : ShV V v s) : Fnc Tryz.prog 57 [v] V (OpR s) := by
 obtain ⟨a, c, rfl, hs⟩ := id hv
 have hlen := hs.jf
 refine qh Tryz.func57 rfl Tryz.ntmps57 (Nat.le_of_ble_eq_true rfl) ?_
 intro w0 hw0
 refine At.nrm ?_
 refine At.zl (.n false 0 (.q 1 (.q 2 .done))) ?_
 refine AtT.qZ ?_
 intro b1
 refine AtT.zg ?_
 refine AtT.zg ?_
 refine AtT.done ?_
 refine At.nrm ?_
 by_cases m1 : 1 ≤ (s.rows.length : Int) ∧ (s.rows.length : Int) ≤ 6
 rotate_left
 ·refine At.zl (.q 0 (.q 1 (.q 2 (.n false 3 (.n false 4 (.q 5 (.q 6 (.q 7 (.q 8 (.q 9 (.q 10 (.q 11 (.n false 12 (.n false 13 (.q 14 (.q 15 (.q 16 (.q 17 (.q 18 (.n false 19 (.n false 20 (.q 21 (.q 22 (.q 23 .done)))))))))))))))))))))))) ?_
  first | refine AtT.zi zw ?_ | with_reducible refine AtT.zk zw ?_ | refine AtT.zn zw ?_
  first | refine AtT.zm zV ?_ | refine AtT.zo zV ?_
  first | refine AtT.zZ Tryz.underlying22 ?_ | refine AtT.qa Tryz.underlying22 ?_
  refine AtT.zu (zT _) ?_
  intro q9 V9 hV9 hq9
  have g9 : Le V V9 := by first | exact hV9 | exact Le.trans (by assumption) hV9
  refine AtT.zq rfl rfl jl (qi 1 6 [(s.rows.length : Int)] _ _ (Sl.lit hq9 rfl (by simp))) ?_
  rintro _ rfl; rw [jm, decide_eq_false m1]
  refine AtT.qW ?_
  refine AtT.zh ?_
  all_goals (first | refine AtT.kL 12 ?_ | refine AtT.zB (d := 12) rfl (fun hg12 => ?_) (fun hg12 => ?_) | refine AtT.zA (d := 12) rfl (fun hg12 => ?_) (fun hg12 => ?_))
  all_goals first|refine AtT.zf ?_|refine AtT.ze ?_|(first | refine AtT.zi zw ?_ | with_reducible refine AtT.zk zw ?_ | refine AtT.zn zw ?_)
  all_goals first|refine AtT.zf ?_|refine AtT.ze ?_|(first | refine AtT.zm zV ?_ | refine AtT.zo zV ?_)
  all_goals first|refine AtT.zf ?_|refine AtT.ze ?_|(refine AtT.qo Tryz.underlying22 tk9 ?_) ; (intro p15 e15 he15 hc15)
  all_goals first|refine AtT.zf ?_|refine AtT.ze ?_|(first | refine AtT.zm tk9 ?_ | refine AtT.zo tk9 ?_)
  all_goals first|refine AtT.zf ?_|refine AtT.ze ?_|(refine AtT.qL rfl ⟨_, _, rfl, rfl, rfl⟩ Tryz.underlying9 rfl (by decide) ?_)
  all_goals first|refine AtT.zO ?_|refine AtT.zI ?_|((refine AtT.zu (zT _) ?_) ; (intro q18 V18 hV18 hq18) ; (have g18 : Le V V18 := by first | exact hV18 | exact Le.trans (by assumption) hV18))
  all_goals first|refine AtT.zO ?_|refine AtT.zI ?_|((fail))
  all_goals first|refine AtT.zf ?_|refine AtT.ze ?_|(refine AtT.qW ?_)
  all_goals (refine AtT.zz ?_)
  all_goals (refine AtT.zh ?_)
  all_goals (first | refine AtT.kL 22 ?_ | refine AtT.zB (d := 22) rfl (fun hg22 => ?_) (fun hg22 => ?_) | refine AtT.zA (d := 22) rfl (fun hg22 => ?_) (fun hg22 => ?_))
  all_goals first|refine AtT.zf ?_|refine AtT.ze ?_|(first | refine AtT.zi zR ?_ | with_reducible refine AtT.zk zR ?_ | refine AtT.zn zR ?_)
  all_goals first|refine AtT.zf ?_|refine AtT.ze ?_|(first | refine AtT.zm tk3 ?_ | refine AtT.zo tk3 ?_)
  all_goals first|refine AtT.zO ?_|refine AtT.zI ?_|((refine AtT.zu (zT _) ?_) ; (intro q25 V25 hV25 hq25) ; (have g25 : Le V V25 := by first | exact hV25 | exact Le.trans (by assumption) hV25))
  all_goals first|refine AtT.zO ?_|refine AtT.zI ?_|((fail))
  all_goals first|refine AtT.zf ?_|refine AtT.ze ?_|(refine AtT.qW ?_)
  all_goals (refine AtT.zz ?_)
  all_goals (refine AtT.zg ?_)
  all_goals refine AtT.done ?_
  all_goals (refine At.nrm ?_)
  refine At.qA rfl rfl ?_
  refine At.nrm ?_
  refine At.zl (.q 0 (.q 1 .done)) ?_
  refine AtT.zg ?_
  refine AtT.zg ?_
  refine AtT.done ?_
  refine At.nrm ?_
  exact At.je rfl (.tmp rfl) (.tmp rfl) (.inr ⟨by unfold chE; rw [if_pos (by omega)]; decide, by unfold chE; rw [if_pos (by omega)]⟩)
 obtain ⟨r0, hr0⟩ : ∃ r, s.rows[0]? = some r := ⟨_, List.getElem?_eq_getElem (by omega)⟩
 have hr0s : r0.size = wdS s := by unfold wdS row0; simp [List.getD, hr0]
 by_cases m2 : 1 ≤ (wdS s : Int) ∧ (wdS s : Int) ≤ 6
 rotate_left
 ·refine At.zl (.q 0 (.q 1 (.q 2 (.n false 3 (.n false 4 (.q 5 (.q 6 (.q 7 (.q 8 (.q 9 (.q 10 (.q 11 (.n false 12 (.n false 13 (.q 14 (.q 15 (.q 16 (.q 17 (.q 18 (.n false 19 (.n false 20 (.q 21 (.q 22 (.q 23 .done)))))))))))))))))))))))) ?_
  first | refine AtT.zi zw ?_ | with_reducible refine AtT.zk zw ?_ | refine AtT.zn zw ?_
  first | refine AtT.zm zV ?_ | refine AtT.zo zV ?_
  first | refine AtT.zZ Tryz.underlying22 ?_ | refine AtT.qa Tryz.underlying22 ?_
  refine AtT.zu (zT _) ?_
  intro q9 V9 hV9 hq9
  have g9 : Le V V9 := by first | exact hV9 | exact Le.trans (by assumption) hV9
  refine AtT.zq rfl rfl jl (qi 1 6 [(s.rows.length : Int)] _ _ (Sl.lit hq9 rfl (by simp))) ?_
  rintro _ rfl; rw [jm, decide_eq_true m1]
  refine AtT.qW ?_
  refine AtT.zh ?_
  all_goals (first | refine AtT.kL 12 ?_ | refine AtT.zB (d := 12) rfl (fun hg12 => ?_) (fun hg12 => ?_) | refine AtT.zA (d := 12) rfl (fun hg12 => ?_) (fun hg12 => ?_))
  all_goals first|refine AtT.zf ?_|refine AtT.ze ?_|(first | refine AtT.zi zw ?_ | with_reducible refine AtT.zk zw ?_ | refine AtT.zn zw ?_)
  all_goals first|refine AtT.zf ?_|refine AtT.ze ?_|(first | refine AtT.zm zV ?_ | refine AtT.zo zV ?_)
  all_goals first|refine AtT.zf ?_|refine AtT.ze ?_|(refine AtT.qo Tryz.underlying22 tk9 ?_) ; (intro p15 e15 he15 hc15)
  all_goals first|refine AtT.zf ?_|refine AtT.ze ?_|(first | refine AtT.zm tk9 ?_ | refine AtT.zo tk9 ?_)
  all_goals (obtain rfl : r0 = e15 := by have : s.rows[0]? = some e15 := (by simpa using he15); rw [hr0] at this; simpa using this)
  all_goals first|refine AtT.zf ?_|refine AtT.ze ?_|(refine AtT.qL rfl ⟨_, _, rfl, rfl, rfl⟩ Tryz.underlying9 rfl (by decide) ?_)
  all_goals (rw [hr0s])
  all_goals first|refine AtT.zO ?_|refine AtT.zI ?_|((refine AtT.zu (zT _) ?_) ; (intro q18 V18 hV18 hq18) ; (have g18 : Le V V18 := by first | exact hV18 | exact Le.trans (by assumption) hV18))
  all_goals first|refine AtT.zO ?_|refine AtT.zI ?_|((refine AtT.zq rfl rfl jl (qi 1 6 [(wdS s : Int)] _ _ (Sl.lit hq18 rfl (by simp))) ?_) ; (rintro _ rfl; rw [jm, decide_eq_false m2]))
  all_goals first|refine AtT.zf ?_|refine AtT.ze ?_|(refine AtT.qW ?_)
  all_goals (refine AtT.zz ?_)
  all_goals (refine AtT.zh ?_)
  all_goals (first | refine AtT.kL 22 ?_ | refine AtT.zB (d := 22) rfl (fun hg22 => ?_) (fun hg22 => ?_) | refine AtT.zA (d := 22) rfl (fun hg22 => ?_) (fun hg22 => ?_))
  all_goals first|refine AtT.zf ?_|refine AtT.ze ?_|(first | refine AtT.zi zR ?_ | with_reducible refine AtT.zk zR ?_ | refine AtT.zn zR ?_)
  all_goals first|refine AtT.zf ?_|refine AtT.ze ?_|(first | refine AtT.zm tk3 ?_ | refine AtT.zo tk3 ?_)
  all_goals first|refine AtT.zO ?_|refine AtT.zI ?_|((refine AtT.zu (zT _) ?_) ; (intro q25 V25 hV25 hq25) ; (have g25 : Le V V25 := by first | exact hV25 | exact Le.trans (by assumption) hV25))
  all_goals first|refine AtT.zO ?_|refine AtT.zI ?_|((fail))
  all_goals first|refine AtT.zf ?_|refine AtT.ze ?_|(refine AtT.qW ?_)
  all_goals (refine AtT.zz ?_)
  all_goals (refine AtT.zg ?_)
  all_goals refine AtT.done ?_
  all_goals (refine At.nrm ?_)
  refine At.qA rfl rfl ?_
  refine At.nrm ?_
  refine At.zl (.q 0 (.q 1 .done)) ?_
  refine AtT.zg ?_
  refine AtT.zg ?_
  refine AtT.done ?_
  refine At.nrm ?_
  exact At.je rfl (.tmp rfl) (.tmp rfl) (.inr ⟨by unfold chE; rw [if_pos (by omega)]; decide, by unfold chE; rw [if_pos (by omega)]⟩)
 by_cases m3 : 1 ≤ s.most ∧ s.most ≤ 36
 rotate_left
 ·refine At.zl (.q 0 (.q 1 (.q 2 (.n false 3 (.n false 4 (.q 5 (.q 6 (.q 7 (.q 8 (.q 9 (.q 10 (.q 11 (.n false 12 (.n false 13 (.q 14 (.q 15 (.q 16 (.q 17 (.q 18 (.n false 19 (.n false 20 (.q 21 (.q 22 (.q 23 .done)))))))))))))))))))))))) ?_
  first | refine AtT.zi zw ?_ | with_reducible refine AtT.zk zw ?_ | refine AtT.zn zw ?_
  first | refine AtT.zm zV ?_ | refine AtT.zo zV ?_
  first | refine AtT.zZ Tryz.underlying22 ?_ | refine AtT.qa Tryz.underlying22 ?_
  refine AtT.zu (zT _) ?_
  intro q9 V9 hV9 hq9
  have g9 : Le V V9 := by first | exact hV9 | exact Le.trans (by assumption) hV9
  refine AtT.zq rfl rfl jl (qi 1 6 [(s.rows.length : Int)] _ _ (Sl.lit hq9 rfl (by simp))) ?_
  rintro _ rfl; rw [jm, decide_eq_true m1]
  refine AtT.qW ?_
  refine AtT.zh ?_
  all_goals (first | refine AtT.kL 12 ?_ | refine AtT.zB (d := 12) rfl (fun hg12 => ?_) (fun hg12 => ?_) | refine AtT.zA (d := 12) rfl (fun hg12 => ?_) (fun hg12 => ?_))
  all_goals first|refine AtT.zf ?_|refine AtT.ze ?_|(first | refine AtT.zi zw ?_ | with_reducible refine AtT.zk zw ?_ | refine AtT.zn zw ?_)
  all_goals first|refine AtT.zf ?_|refine AtT.ze ?_|(first | refine AtT.zm zV ?_ | refine AtT.zo zV ?_)
  all_goals first|refine AtT.zf ?_|refine AtT.ze ?_|(refine AtT.qo Tryz.underlying22 tk9 ?_) ; (intro p15 e15 he15 hc15)
  all_goals first|refine AtT.zf ?_|refine AtT.ze ?_|(first | refine AtT.zm tk9 ?_ | refine AtT.zo tk9 ?_)
  all_goals (obtain rfl : r0 = e15 := by have : s.rows[0]? = some e15 := (by simpa using he15); rw [hr0] at this; simpa using this)
  all_goals first|refine AtT.zf ?_|refine AtT.ze ?_|(refine AtT.qL rfl ⟨_, _, rfl, rfl, rfl⟩ Tryz.underlying9 rfl (by decide) ?_)
  all_goals (rw [hr0s])
  all_goals first|refine AtT.zO ?_|refine AtT.zI ?_|((refine AtT.zu (zT _) ?_) ; (intro q18 V18 hV18 hq18) ; (have g18 : Le V V18 := by first | exact hV18 | exact Le.trans (by assumption) hV18))
  all_goals first|refine AtT.zO ?_|refine AtT.zI ?_|((refine AtT.zq rfl rfl jl (qi 1 6 [(wdS s : Int)] _ _ (Sl.lit hq18 rfl (by simp))) ?_) ; (rintro _ rfl; rw [jm, decide_eq_true m2]))
  all_goals first|refine AtT.zf ?_|refine AtT.ze ?_|(refine AtT.qW ?_)
  all_goals (refine AtT.zz ?_)
  all_goals (refine AtT.zh ?_)
  all_goals (first | refine AtT.kL 22 ?_ | refine AtT.zB (d := 22) rfl (fun hg22 => ?_) (fun hg22 => ?_) | refine AtT.zA (d := 22) rfl (fun hg22 => ?_) (fun hg22 => ?_))
  all_goals first|refine AtT.zf ?_|refine AtT.ze ?_|(first | refine AtT.zi zR ?_ | with_reducible refine AtT.zk zR ?_ | refine AtT.zn zR ?_)
  all_goals first|refine AtT.zf ?_|refine AtT.ze ?_|(first | refine AtT.zm tk3 ?_ | refine AtT.zo tk3 ?_)
  all_goals first|refine AtT.zO ?_|refine AtT.zI ?_|((refine AtT.zu (zT _) ?_) ; (intro q25 V25 hV25 hq25) ; (have g25 : Le V V25 := by first | exact hV25 | exact Le.trans (by assumption) hV25))
  all_goals first|refine AtT.zO ?_|refine AtT.zI ?_|((refine AtT.zq rfl rfl jl (qi 1 36 [s.most] _ _ (Sl.lit hq25 rfl (by simp))) ?_) ; (rintro _ rfl; rw [jm, decide_eq_false m3]))
  all_goals first|refine AtT.zf ?_|refine AtT.ze ?_|(refine AtT.qW ?_)
  all_goals (refine AtT.zz ?_)
  all_goals (refine AtT.zg ?_)
  all_goals refine AtT.done ?_
  all_goals (refine At.nrm ?_)
  refine At.qA rfl rfl ?_
  refine At.nrm ?_
  refine At.zl (.q 0 (.q 1 .done)) ?_
  refine AtT.zg ?_
  refine AtT.zg ?_
  refine AtT.done ?_
  refine At.nrm ?_
  exact At.je rfl (.tmp rfl) (.tmp rfl) (.inr ⟨by unfold chE; rw [if_pos (by omega)]; decide, by unfold chE; rw [if_pos (by omega)]⟩)
 refine At.zl (.q 0 (.q 1 (.q 2 (.n false 3 (.n false 4 (.q 5 (.q 6 (.q 7 (.q 8 (.q 9 (.q 10 (.q 11 (.n false 12 (.n false 13 (.q 14 (.q 15 (.q 16 (.q 17 (.q 18 (.n false 19 (.n false 20 (.q 21 (.q 22 (.q 23 .done)))))))))))))))))))))))) ?_
 first | refine AtT.zi zw ?_ | with_reducible refine AtT.zk zw ?_ | refine AtT.zn zw ?_
 first | refine AtT.zm zV ?_ | refine AtT.zo zV ?_
 first | refine AtT.zZ Tryz.underlying22 ?_ | refine AtT.qa Tryz.underlying22 ?_
 refine AtT.zu (zT _) ?_
 intro q9 V9 hV9 hq9
 have g9 : Le V V9 := by first | exact hV9 | exact Le.trans (by assumption) hV9
 refine AtT.zq rfl rfl jl (qi 1 6 [(s.rows.length : Int)] _ _ (Sl.lit hq9 rfl (by simp))) ?_
 rintro _ rfl; rw [jm, decide_eq_true m1]
 refine AtT.qW ?_
 refine AtT.zh ?_
 all_goals (first | refine AtT.kL 12 ?_ | refine AtT.zB (d := 12) rfl (fun hg12 => ?_) (fun hg12 => ?_) | refine AtT.zA (d := 12) rfl (fun hg12 => ?_) (fun hg12 => ?_))
 all_goals first|refine AtT.zf ?_|refine AtT.ze ?_|(first | refine AtT.zi zw ?_ | with_reducible refine AtT.zk zw ?_ | refine AtT.zn zw ?_)
 all_goals first|refine AtT.zf ?_|refine AtT.ze ?_|(first | refine AtT.zm zV ?_ | refine AtT.zo zV ?_)
 all_goals first|refine AtT.zf ?_|refine AtT.ze ?_|(refine AtT.qo Tryz.underlying22 tk9 ?_) ; (intro p15 e15 he15 hc15)
 all_goals first|refine AtT.zf ?_|refine AtT.ze ?_|(first | refine AtT.zm tk9 ?_ | refine AtT.zo tk9 ?_)
 all_goals (obtain rfl : r0 = e15 := by have : s.rows[0]? = some e15 := (by simpa using he15); rw [hr0] at this; simpa using this)
 all_goals first|refine AtT.zf ?_|refine AtT.ze ?_|(refine AtT.qL rfl ⟨_, _, rfl, rfl, rfl⟩ Tryz.underlying9 rfl (by decide) ?_)
 all_goals (rw [hr0s])
 all_goals first|refine AtT.zO ?_|refine AtT.zI ?_|((refine AtT.zu (zT _) ?_) ; (intro q18 V18 hV18 hq18) ; (have g18 : Le V V18 := by first | exact hV18 | exact Le.trans (by assumption) hV18))
 all_goals first|refine AtT.zO ?_|refine AtT.zI ?_|((refine AtT.zq rfl rfl jl (qi 1 6 [(wdS s : Int)] _ _ (Sl.lit hq18 rfl (by simp))) ?_) ; (rintro _ rfl; rw [jm, decide_eq_true m2]))
 all_goals first|refine AtT.zf ?_|refine AtT.ze ?_|(refine AtT.qW ?_)
 all_goals (refine AtT.zz ?_)
 all_goals (refine AtT.zh ?_)
 all_goals (first | refine AtT.kL 22 ?_ | refine AtT.zB (d := 22) rfl (fun hg22 => ?_) (fun hg22 => ?_) | refine AtT.zA (d := 22) rfl (fun hg22 => ?_) (fun hg22 => ?_))
 all_goals first|refine AtT.zf ?_|refine AtT.ze ?_|(first | refine AtT.zi zR ?_ | with_reducible refine AtT.zk zR ?_ | refine AtT.zn zR ?_)
 all_goals first|refine AtT.zf ?_|refine AtT.ze ?_|(first | refine AtT.zm tk3 ?_ | refine AtT.zo tk3 ?_)
 all_goals first|refine AtT.zO ?_|refine AtT.zI ?_|((refine AtT.zu (zT _) ?_) ; (intro q25 V25 hV25 hq25) ; (have g25 : Le V V25 := by first | exact hV25 | exact Le.trans (by assumption) hV25))
 all_goals first|refine AtT.zO ?_|refine AtT.zI ?_|((refine AtT.zq rfl rfl jl (qi 1 36 [s.most] _ _ (Sl.lit hq25 rfl (by simp))) ?_) ; (rintro _ rfl; rw [jm, decide_eq_true m3]))
 all_goals first|refine AtT.zf ?_|refine AtT.ze ?_|(refine AtT.qW ?_)
 all_goals (refine AtT.zz ?_)
 all_goals (refine AtT.zg ?_)
 all_goals refine AtT.done ?_
 all_goals (refine At.nrm ?_)
 refine At.qX rfl rfl ?_
 have c1 : ¬ ¬ (1 ≤ s.rows.length ∧ s.rows.length ≤ 6 ∧ 1 ≤ wdS s ∧ wdS s ≤ 6 ∧ 1 ≤ s.most ∧ s.most ≤ 36) := fun h => h (by omega)
 have hn0 : s.rows ≠ [] := fun h => by rw [h] at m1; simp at m1
 refine At.nrm ?_
 refine At.zl (.q 0 (.q 1 (.q 2 (.n false 3 (.q 4 .done))))) ?_
 first | refine AtT.zi zw ?_ | with_reducible refine AtT.zk zw ?_ | refine AtT.zn zw ?_
 first | refine AtT.zm zV ?_ | refine AtT.zo zV ?_
 refine AtT.kfn ?_
 refine AtT.kcallL rfl rfl ok82 (fun VL hVL hOL => contains_b 83 [.pointer (some ⟨b1, 0, none⟩)] (fun r => decide (r.size ≠ wdS s)) VL _ s.rows ((hs.le (by first | assumption | exact Le.trans (by assumption) (by assumption))).le hVL) ok83 (fun x _ => open1_f s (by omega) x VL _ a c s.most (qO (hOL b1 _ (List.mem_cons_self ..))) ((hs.le (by first | assumption | exact Le.trans (by assumption) (by assumption))).le hVL))) ?_
 rintro _ rfl
 refine AtT.zg ?_
 refine AtT.done ?_
 refine At.nrm ?_
 refine At.cond rfl (fun hb => ?_) (fun hb => ?_)
 ·refine At.nrm ?_
  refine At.zl (.q 0 (.q 1 .done)) ?_
  refine AtT.zg ?_
  refine AtT.zg ?_
  refine AtT.done ?_
  refine At.nrm ?_
  exact At.je rfl (.tmp rfl) (.tmp rfl) (.inr ⟨by unfold chE; rw [if_neg c1, if_pos hb]; decide, by unfold chE; rw [if_neg c1, if_pos hb]⟩)
 have hsz : ∀ r ∈ s.rows, r.size = wdS s := fun r hr => by
  apply Classical.byContradiction
  intro hc
  rw [List.any_eq_true.2 ⟨r, hr, decide_eq_true hc⟩] at hb; cases hb
 have c2 : ¬ (s.rows.any fun r => decide (r.size ≠ wdS s)) = true := fun h => by rw [hb] at h; cases h
 have h12 : ∀ r ∈ s.rows, r.size ≤ 12 := fun r hr => by have := hsz r hr; omega
 have hwl := wh_len s h12 (by omega)
 have hwt := wh_trim s
 have hwc := wh_count s
 have hbt : bt ⟨(wh s).toArray⟩ = wh s := by unfold bt; simp
 refine At.nrm ?_
 refine At.zl (.q 0 (.q 1 (.n false 2 (.q 3 .done)))) ?_
 first | refine AtT.zi zw ?_ | with_reducible refine AtT.zk zw ?_ | refine AtT.zn zw ?_
 first | refine AtT.zm zV ?_ | refine AtT.zo zV ?_
 refine AtT.zq rfl rfl ok84 (join_f s.rows hn0 (by omega) h12 _ _ (hs.le (by first | assumption | exact Le.trans (by assumption) (by assumption)))) ?_
 rintro _ rfl
 refine AtT.zg ?_
 refine AtT.done ?_
 refine At.nrm ?_
 refine At.nrm ?_
 refine At.zl (.q 0 (.n false 1 (.q 2 (.q 3 .done)))) ?_
 refine AtT.zh ?_
 refine AtT.zq rfl rfl ok85 (trim_f ⟨(wh s).toArray⟩ (by show (wh s).toArray.size ≤ _; rw [List.size_toArray]; omega) _) ?_
 rintro _ rfl; rw [hbt]
 refine AtT.neStr rfl trivial rfl rfl (by decide) ?_
 refine AtT.zg ?_
 refine AtT.done ?_
 refine At.nrm ?_
 refine At.qc rfl (fun hq => ?_) (fun hq => ?_)
 ·have hfr : s.rows.all frR = false := by
   cases h : s.rows.all frR with
   | false => rfl
   | true => exact absurd (by rw [hwt.2 h]) hq
  refine At.nrm ?_
  refine At.zl (.q 0 (.q 1 .done)) ?_
  refine AtT.zg ?_
  refine AtT.zg ?_
  refine AtT.done ?_
  refine At.nrm ?_
  exact At.je rfl (.tmp rfl) (.tmp rfl) (.inr ⟨by unfold chE; rw [if_neg c1, if_neg c2, if_pos hfr]; decide, by unfold chE; rw [if_neg c1, if_neg c2, if_pos hfr]⟩)
 have hfr : ¬ s.rows.all frR = false := fun h => by
  have hq' := Classical.not_not.1 hq
  have h1 : Lib.trimS (wh s) [46, 111, 35] = [] := by
   have h2 := congrArg bt hq'
   unfold bt at h2
   simpa using h2
  rw [hwt.1 h1] at h; cases h
 refine At.nrm ?_
 refine At.zl (.q 0 (.n false 1 (.q 2 (.q 3 .done)))) ?_
 refine AtT.zh ?_
 refine AtT.zq rfl rfl ok86 (count_f ⟨(wh s).toArray⟩ _) ?_
 rintro _ rfl; rw [hbt, hwc]
 refine AtT.qw ?_
 refine AtT.zg ?_
 refine AtT.done ?_
 refine At.nrm ?_
 refine At.qc rfl (fun hq2 => ?_) (fun hq2 => ?_)
 ·refine At.nrm ?_
  refine At.zl (.q 0 (.q 1 .done)) ?_
  refine AtT.zg ?_
  refine AtT.zg ?_
  refine AtT.done ?_
  refine At.nrm ?_
  exact At.je rfl (.tmp rfl) (.tmp rfl) (.inr ⟨by unfold chE; rw [if_neg c1, if_neg c2, if_neg hfr, if_pos (by omega)]; decide, by unfold chE; rw [if_neg c1, if_neg c2, if_neg hfr, if_pos (by omega)]⟩)
 have h0 : chE s = 0 := by unfold chE; rw [if_neg c1, if_neg c2, if_neg hfr, if_neg (by omega)]
 refine At.nrm ?_
 refine At.zl (.q 0 (.n false 1 (.q 2 (.q 3 .done)))) ?_
 first | refine AtT.zD zP ?_ | refine AtT.zK zP ?_ | refine AtT.zC zP ?_
 refine AtT.qg rfl rfl ok87 (newBench_f s (jq h0) _ _ ⟨a, c, rfl, hs.le (by first | assumption | exact Le.trans (by assumption) (by assumption))⟩) ?_
 rintro _ V46 hV46 ⟨b, rfl, hb46⟩
 refine AtT.zg ?_
 refine AtT.zg ?_
 refine AtT.done ?_
 refine At.nrm ?_
 exact At.je rfl (.tmp rfl) (.tmp rfl) (.inl ⟨h0, b, rfl, hb46⟩)
end Go.Proofs.YtghomjjffllkeaaGreatDoor
set_option linter.unusedVariables false
namespace Go.Pm
open Go.Gl Go.Lw
theorem two_ne {K : List Cl} {i k : Nat} (hi : i < K.length) : sel K (2 ^ i ||| 2 ^ k) ≠ [] := fun e => by
 have hx : K[i]? = some K[i] := List.getElem?_eq_getElem hi
 have : K[i] ∈ sel K (2 ^ i ||| 2 ^ k) := qY.2 ⟨i, hx, by rw [Nat.testBit_or, Nat.testBit_two_pow_self]; rfl⟩
 rw [e] at this; cases this
theorem two_lt {i k : Nat} (hi : i < 10) (hk : k < 10) : 2 ^ i < 1024 ∧ 2 ^ k < 1024 ∧ 2 ^ i ||| 2 ^ k < 1024 := by
 have h1 : 2 ^ i < 2 ^ 10 := Nat.pow_lt_pow_right (by omega) hi
 have h2 : 2 ^ k < 2 ^ 10 := Nat.pow_lt_pow_right (by omega) hk
 exact ⟨h1, h2, Nat.or_lt_two_pow h1 h2⟩
end Go.Pm
namespace Go.Proofs.YtghomjjffllkeaaGreatDoor
open Go.Lw Go.Gl Go.Pm Go.RowKit
theorem share_f (s : Sh) (hok : ShOk s) (i k : Nat) (hi : i < (knL s).length) (hk : k < (knL s).length) (V : View) (b : Nat) (hb : BnV V b s) : Fnc Tryz.prog 69 [.pointer (some ⟨b, 0, none⟩), iv i, iv k] V fun r _ => r = .bool (shN (gdS s) (knL s) i k) := by
 have h10 := hok.kn
 obtain ⟨l1, l2, l3⟩ := two_lt (i := i) (k := k) (by omega) (by omega)
 refine qh Tryz.func69 rfl Tryz.ntmps69 (Nat.le_of_ble_eq_true rfl) ?_
 intro w0 hw0
 refine At.nrm ?_
 refine At.zl (.q 0 .done) ?_
 refine AtT.zg ?_
 refine AtT.done ?_
 refine At.nrm ?_
 refine At.draw (.q 0 (.q 1 (.q 2 (.q 3 (.q 4 (.q 5 (.q 6 (.q 7 (.n false 8 (.n false 9 (.q 10 (.q 11 .done)))))))))))) ffm (by kernel_rfl) ?_
 refine AtT.zh ?_
 refine AtT.zh ?_
 refine AtT.zh ?_
 refine AtT.shlN rfl trivial rfl rfl rfl (by omega) (by decide) (N := i) ?_
 refine AtT.zh ?_
 refine AtT.shlN rfl trivial rfl rfl rfl (by omega) (by decide) (N := k) ?_
 refine AtT.orN rfl trivial rfl rfl rfl rfl (by omega) (by omega) (by decide) (A := 2 ^ i) (B := 2 ^ k) ?_
 refine AtT.ja (bd129_0 _) ?_
 refine AtT.zq rfl rfl ok93 (least_f s hok h10 (2 ^ i ||| 2 ^ k) (by omega) (two_ne hi) _ b hb) ?_
 rintro _ rfl
 refine AtT.zq rfl rfl ok58 (lies_f s hok _ _ b hb) ?_
 rintro _ rfl
 refine AtT.keqI ?_
 refine AtT.zg ?_
 refine AtT.done ?_
 refine At.nrm ?_
 all_goals (exact At.qb rfl (.tmp rfl) rfl)
theorem inP_wi (p : Pc) (k : Cl) : decide (inP p k) = (wi p.t (p.t + p.h - 1) [k.r] && wi p.l (p.l + p.w - 1) [k.c]) := by
 rw [jm, jm, Bool.eq_iff_iff, Bool.and_eq_true, decide_eq_true_eq, decide_eq_true_eq, decide_eq_true_eq]
 unfold inP
 omega
theorem has_f (p : Pc) (k : Cl) (hb : -1000 ≤ p.t ∧ p.t ≤ 1000 ∧ -1000 ≤ p.l ∧ p.l ≤ 1000 ∧ -1000 ≤ p.h ∧ p.h ≤ 1000 ∧ -1000 ≤ p.w ∧ p.w ≤ 1000) (V : View) : Fnc Tryz.prog 61 [pcv p, clv k] V fun r _ => r = .bool (decide (inP p k)) := by
 refine qh Tryz.func61 rfl Tryz.ntmps61 (Nat.le_of_ble_eq_true rfl) ?_
 intro w0 hw0
 refine At.nrm ?_
 refine At.zl (.n false 0 (.n false 1 (.q 2 .done))) ?_
 refine AtT.qZ ?_
 intro b2
 refine AtT.qZ ?_
 intro b3
 refine AtT.zg ?_
 refine AtT.done ?_
 refine At.nrm ?_
 have e := inP_wi p k
 cases h1 : wi p.t (p.t + p.h - 1) [k.r] with
 | false =>
  rw [h1, Bool.false_and] at e
  rw [e]
  refine At.zl (.q 0 (.q 1 (.q 2 (.q 3 (.q 4 (.q 5 (.q 6 (.q 7 (.q 8 (.q 9 (.n false 10 (.n false 11 (.q 12 (.q 13 (.q 14 (.q 15 (.q 16 (.q 17 (.q 18 (.q 19 (.q 20 (.q 21 (.q 22 (.n false 23 (.n false 24 (.q 25 (.q 26 .done))))))))))))))))))))))))))) ?_
  first | refine AtT.zi zH ?_ | with_reducible refine AtT.zk zH ?_ | refine AtT.zn zH ?_
  first | refine AtT.zm tk3 ?_ | refine AtT.zo tk3 ?_
  first | refine AtT.zi zH ?_ | with_reducible refine AtT.zk zH ?_ | refine AtT.zn zH ?_
  first | refine AtT.zm tk3 ?_ | refine AtT.zo tk3 ?_
  first | refine AtT.zi zy ?_ | with_reducible refine AtT.zk zy ?_ | refine AtT.zn zy ?_
  first | refine AtT.zm tk3 ?_ | refine AtT.zo tk3 ?_
  first | refine AtT.qj ?_ | refine AtT.zU ?_
  first | refine AtT.qD ?_ | refine AtT.qE ?_
  first | refine AtT.zi fo90_0 ?_ | with_reducible refine AtT.zk fo90_0 ?_ | refine AtT.zn fo90_0 ?_
  first | refine AtT.zm tk3 ?_ | refine AtT.zo tk3 ?_
  refine AtT.zu (zT _) ?_
  intro q15 V15 hV15 hq15
  have g15 : Le V V15 := by first | exact hV15 | exact Le.trans (by assumption) hV15
  refine AtT.zq rfl rfl jl (qi _ _ [k.r] _ _ (Sl.lit hq15 rfl (by simp))) ?_
  rintro _ rfl; rw [h1]
  refine AtT.zh ?_
  all_goals (first | refine AtT.kL 17 ?_ | refine AtT.zB (d := 17) rfl (fun hg17 => ?_) (fun hg17 => ?_) | refine AtT.zA (d := 17) rfl (fun hg17 => ?_) (fun hg17 => ?_))
  all_goals first|refine AtT.zf ?_|refine AtT.ze ?_|(first | refine AtT.zi zG ?_ | with_reducible refine AtT.zk zG ?_ | refine AtT.zn zG ?_)
  all_goals first|refine AtT.zf ?_|refine AtT.ze ?_|(first | refine AtT.zm tk3 ?_ | refine AtT.zo tk3 ?_)
  all_goals first|refine AtT.zf ?_|refine AtT.ze ?_|(first | refine AtT.zi zG ?_ | with_reducible refine AtT.zk zG ?_ | refine AtT.zn zG ?_)
  all_goals first|refine AtT.zf ?_|refine AtT.ze ?_|(first | refine AtT.zm tk3 ?_ | refine AtT.zo tk3 ?_)
  all_goals first|refine AtT.zf ?_|refine AtT.ze ?_|(first | refine AtT.zi zx ?_ | with_reducible refine AtT.zk zx ?_ | refine AtT.zn zx ?_)
  all_goals first|refine AtT.zf ?_|refine AtT.ze ?_|(first | refine AtT.zm tk3 ?_ | refine AtT.zo tk3 ?_)
  all_goals first|refine AtT.zf ?_|refine AtT.ze ?_|(first | refine AtT.qj ?_ | refine AtT.zU ?_)
  all_goals first|refine AtT.zf ?_|refine AtT.ze ?_|(first | refine AtT.qD ?_ | refine AtT.qE ?_)
  all_goals first|refine AtT.zf ?_|refine AtT.ze ?_|(first | refine AtT.zi fo90_1 ?_ | with_reducible refine AtT.zk fo90_1 ?_ | refine AtT.zn fo90_1 ?_)
  all_goals first|refine AtT.zf ?_|refine AtT.ze ?_|(first | refine AtT.zm tk3 ?_ | refine AtT.zo tk3 ?_)
  all_goals first|refine AtT.zO ?_|refine AtT.zI ?_|((refine AtT.zu (zT _) ?_) ; (intro q28 V28 hV28 hq28) ; (have g28 : Le V V28 := by first | exact hV28 | exact Le.trans (by assumption) hV28))
  all_goals first|refine AtT.zO ?_|refine AtT.zI ?_|((fail))
  all_goals (refine AtT.zz ?_)
  all_goals (refine AtT.zg ?_)
  all_goals refine AtT.done ?_
  all_goals (refine At.nrm ?_)
  exact At.qb rfl (.tmp rfl) rfl
 | true =>
  rw [h1, Bool.true_and] at e
  rw [e]
  refine At.zl (.q 0 (.q 1 (.q 2 (.q 3 (.q 4 (.q 5 (.q 6 (.q 7 (.q 8 (.q 9 (.n false 10 (.n false 11 (.q 12 (.q 13 (.q 14 (.q 15 (.q 16 (.q 17 (.q 18 (.q 19 (.q 20 (.q 21 (.q 22 (.n false 23 (.n false 24 (.q 25 (.q 26 .done))))))))))))))))))))))))))) ?_
  first | refine AtT.zi zH ?_ | with_reducible refine AtT.zk zH ?_ | refine AtT.zn zH ?_
  first | refine AtT.zm tk3 ?_ | refine AtT.zo tk3 ?_
  first | refine AtT.zi zH ?_ | with_reducible refine AtT.zk zH ?_ | refine AtT.zn zH ?_
  first | refine AtT.zm tk3 ?_ | refine AtT.zo tk3 ?_
  first | refine AtT.zi zy ?_ | with_reducible refine AtT.zk zy ?_ | refine AtT.zn zy ?_
  first | refine AtT.zm tk3 ?_ | refine AtT.zo tk3 ?_
  first | refine AtT.qj ?_ | refine AtT.zU ?_
  first | refine AtT.qD ?_ | refine AtT.qE ?_
  first | refine AtT.zi fo90_0 ?_ | with_reducible refine AtT.zk fo90_0 ?_ | refine AtT.zn fo90_0 ?_
  first | refine AtT.zm tk3 ?_ | refine AtT.zo tk3 ?_
  refine AtT.zu (zT _) ?_
  intro q15 V15 hV15 hq15
  have g15 : Le V V15 := by first | exact hV15 | exact Le.trans (by assumption) hV15
  refine AtT.zq rfl rfl jl (qi _ _ [k.r] _ _ (Sl.lit hq15 rfl (by simp))) ?_
  rintro _ rfl; rw [h1]
  refine AtT.zh ?_
  all_goals (first | refine AtT.kL 17 ?_ | refine AtT.zB (d := 17) rfl (fun hg17 => ?_) (fun hg17 => ?_) | refine AtT.zA (d := 17) rfl (fun hg17 => ?_) (fun hg17 => ?_))
  all_goals first|refine AtT.zf ?_|refine AtT.ze ?_|(first | refine AtT.zi zG ?_ | with_reducible refine AtT.zk zG ?_ | refine AtT.zn zG ?_)
  all_goals first|refine AtT.zf ?_|refine AtT.ze ?_|(first | refine AtT.zm tk3 ?_ | refine AtT.zo tk3 ?_)
  all_goals first|refine AtT.zf ?_|refine AtT.ze ?_|(first | refine AtT.zi zG ?_ | with_reducible refine AtT.zk zG ?_ | refine AtT.zn zG ?_)
  all_goals first|refine AtT.zf ?_|refine AtT.ze ?_|(first | refine AtT.zm tk3 ?_ | refine AtT.zo tk3 ?_)
  all_goals first|refine AtT.zf ?_|refine AtT.ze ?_|(first | refine AtT.zi zx ?_ | with_reducible refine AtT.zk zx ?_ | refine AtT.zn zx ?_)
  all_goals first|refine AtT.zf ?_|refine AtT.ze ?_|(first | refine AtT.zm tk3 ?_ | refine AtT.zo tk3 ?_)
  all_goals first|refine AtT.zf ?_|refine AtT.ze ?_|(first | refine AtT.qj ?_ | refine AtT.zU ?_)
  all_goals first|refine AtT.zf ?_|refine AtT.ze ?_|(first | refine AtT.qD ?_ | refine AtT.qE ?_)
  all_goals first|refine AtT.zf ?_|refine AtT.ze ?_|(first | refine AtT.zi fo90_1 ?_ | with_reducible refine AtT.zk fo90_1 ?_ | refine AtT.zn fo90_1 ?_)
  all_goals first|refine AtT.zf ?_|refine AtT.ze ?_|(first | refine AtT.zm tk3 ?_ | refine AtT.zo tk3 ?_)
  all_goals first|refine AtT.zO ?_|refine AtT.zI ?_|((refine AtT.zu (zT _) ?_) ; (intro q28 V28 hV28 hq28) ; (have g28 : Le V V28 := by first | exact hV28 | exact Le.trans (by assumption) hV28))
  all_goals first|refine AtT.zO ?_|refine AtT.zI ?_|((refine AtT.zq rfl rfl jl (qi _ _ [k.c] _ _ (Sl.lit hq28 rfl (by simp))) ?_) ; (rintro _ rfl))
  all_goals (refine AtT.zz ?_)
  all_goals (refine AtT.zg ?_)
  all_goals refine AtT.done ?_
  all_goals (refine At.nrm ?_)
  exact At.qb rfl (.tmp rfl) rfl
theorem open_ok (s : Sh) (h : chE s = 0) (V : View) (v : Value) (hv : ShV V v s) : Fnc Tryz.prog 57 [v] V fun r V' => ∃ b, r = .tuple #[.pointer (some ⟨b, 0, none⟩), iv 0] ∧ BnV V' b s :=
 (open_f s V v hv).mono fun r V' _ h1 => by
  rcases h1 with ⟨_, h1⟩ | ⟨h1, _⟩
  ·exact h1
  ·exact absurd h h1
theorem open_bad (s : Sh) (h : chE s ≠ 0) (V : View) (v : Value) (hv : ShV V v s) : Fnc Tryz.prog 57 [v] V fun r V' => r = .tuple #[.pointer none, iv (chE s)] :=
 (open_f s V v hv).mono fun r V' _ h1 => by
  rcases h1 with ⟨h1, _⟩ | ⟨_, h1⟩
  ·exact absurd h1 h
  ·exact h1
def ckR (s : Sh) (p : Pc) : Int := if chE s ≠ 0 then chE s else peE (gdS s) p
theorem ql (s : Sh) (p : Pc) (V : View) (v : Value) (hv : ShV V v s) : Fnc Tryz.prog 21 [v, pcv p] V fun r _ => r = iv (ckR s p) := by
 obtain ⟨a, c, rfl, hs⟩ := id hv
 refine qh Tryz.func21 rfl Tryz.ntmps21 (Nat.le_of_ble_eq_true rfl) ?_
 intro w0 hw0
 refine At.nrm ?_
 refine At.zl (.n false 0 (.n false 1 (.q 2 .done))) ?_
 refine AtT.qZ ?_
 intro b2
 refine AtT.qZ ?_
 intro b3
 refine AtT.zg ?_
 refine AtT.done ?_
 refine At.nrm ?_
 by_cases h0 : chE s = 0
 ·refine At.zl (.q 0 (.n false 1 (.q 2 (.q 3 (.q 4 (.q 5 (.q 6 .done))))))) ?_
  first | refine AtT.zD zP ?_ | refine AtT.zK zP ?_ | refine AtT.zC zP ?_
  refine AtT.qg rfl rfl ok57 (open_ok s h0 _ _ hv) ?_
  rintro v9 V9 hV9 ⟨b, rfl, hb⟩
  refine AtT.zh ?_
  refine AtT.zN ?_
  refine AtT.zN ?_
  refine AtT.zg ?_
  refine AtT.zg ?_
  refine AtT.done ?_
  refine At.nrm ?_
  refine At.nrm ?_
  refine At.zl (.q 0 (.q 1 .done)) ?_
  refine AtT.zh ?_
  refine AtT.qG ?_
  refine AtT.done ?_
  refine At.nrm ?_
  refine At.qX rfl rfl ?_
  refine At.nrm ?_
  refine At.zl (.q 0 (.q 1 (.n false 2 (.q 3 .done)))) ?_
  refine AtT.zh ?_
  first | refine AtT.zD zS ?_ | refine AtT.zK zS ?_ | refine AtT.zC zS ?_
  refine AtT.zq rfl rfl ok58 (lies_f s (jq h0) p _ b hb) ?_
  rintro _ rfl
  refine AtT.zg ?_
  refine AtT.done ?_
  refine At.nrm ?_
  exact At.qb rfl (.tmp rfl) (by unfold ckR; rw [if_neg (by simpa using h0)])
 ·refine At.zl (.q 0 (.n false 1 (.q 2 (.q 3 (.q 4 (.q 5 (.q 6 .done))))))) ?_
  first | refine AtT.zD zP ?_ | refine AtT.zK zP ?_ | refine AtT.zC zP ?_
  refine AtT.qg rfl rfl ok57 (open_bad s h0 _ _ hv) ?_
  rintro v9 V9 hV9 rfl
  refine AtT.zh ?_
  refine AtT.zN ?_
  refine AtT.zN ?_
  refine AtT.zg ?_
  refine AtT.zg ?_
  refine AtT.done ?_
  refine At.nrm ?_
  refine At.nrm ?_
  refine At.zl (.q 0 (.q 1 .done)) ?_
  refine AtT.zh ?_
  refine AtT.qG ?_
  refine AtT.done ?_
  refine At.nrm ?_
  refine At.qA rfl (decide_eq_true h0) ?_
  refine At.nrm ?_
  refine At.zl (.q 0 (.q 1 .done)) ?_
  refine AtT.zh ?_
  refine AtT.zg ?_
  refine AtT.done ?_
  refine At.nrm ?_
  exact At.qb rfl (.tmp rfl) (by unfold ckR; rw [if_pos h0])
end Go.Proofs.YtghomjjffllkeaaGreatDoor
set_option linter.unusedVariables false
namespace Go.Pm
open Go.Gl Go.Lw
theorem lies_bd {s : Sh} (hok : ShOk s) {p : Pc} (h : Lies (gdS s) p) : -1000 ≤ p.t ∧ p.t ≤ 1000 ∧ -1000 ≤ p.l ∧ p.l ≤ 1000 ∧ -1000 ≤ p.h ∧ p.h ≤ 1000 ∧ -1000 ≤ p.w ∧ p.w ≤ 1000 := by
 have h1 := h.h
 have h2 := h.w
 have h3 := h.t
 have h4 := h.l
 have hn := hok.n
 have hw := hok.w
 have hR : (gdS s).R = (s.rows.length : Int) := rfl
 have hC : (gdS s).C = (wdS s : Int) := rfl
 omega
theorem arL_take {ps : List Pc} {k : Nat} {p : Pc} (h : ps[k]? = some p) : arL (ps.take (k + 1)) = arL (ps.take k) + arP p := by
 have hl := (List.getElem?_eq_some_iff.1 h).1
 rw [List.take_succ_eq_append_getElem hl, arL_snoc]
 rw [List.getElem?_eq_getElem hl] at h
 cases h; rfl
end Go.Pm
namespace Go.Proofs.YtghomjjffllkeaaGreatDoor
open Go.Lw Go.Gl Go.Pm Go.RowKit
theorem has1_f (p : Pc) (k : Cl) (hb : -1000 ≤ p.t ∧ p.t ≤ 1000 ∧ -1000 ≤ p.l ∧ p.l ≤ 1000 ∧ -1000 ≤ p.h ∧ p.h ≤ 1000 ∧ -1000 ≤ p.w ∧ p.w ≤ 1000) (V : View) (q : Addr) (hq : Cells V q (cle k)) : Fnc Tryz.prog 60 ([] ++ [pcv p] ++ [.pointer (some q)]) V fun r _ => r = .bool (decide (inP p k)) := by
 refine qh Tryz.func60 rfl Tryz.ntmps60 (Nat.le_of_ble_eq_true rfl) ?_
 intro w0 hw0
 refine At.nrm ?_
 refine At.zl (.n false 0 (.q 1 .done)) ?_
 refine AtT.qZ ?_
 intro b2
 refine AtT.zg ?_
 refine AtT.done ?_
 refine At.nrm ?_
 refine At.zl (.q 0 (.q 1 (.n false 2 (.q 3 .done)))) ?_
 first | refine AtT.zD zS ?_ | refine AtT.zK zS ?_ | refine AtT.zC zS ?_
 first | refine AtT.zD tk90 ?_ | refine AtT.zK tk90 ?_ | refine AtT.zC tk90 ?_
 refine AtT.zq rfl rfl ok61 (has_f p k hb _) ?_
 rintro _ rfl
 refine AtT.zg ?_
 refine AtT.done ?_
 refine At.nrm ?_
 exact At.qb rfl (.tmp rfl) rfl
theorem checkPatches_f (s : Sh) (ps : List Pc) (V : View) (v u : Value) (hv : ShV V v s) (hu : Sl V pce 4 u ps) : Fnc Tryz.prog 17 [v, u] V fun r _ => r = .tuple #[iv (cpR s ps).1, iv (cpR s ps).2] := by
 obtain ⟨a, c, rfl, hs⟩ := id hv
 obtain ⟨a1, c1, rfl, k1, k2, _⟩ := id hu
 clear k1 k2
 have hlen := hu.jf
 refine qh Tryz.func17 rfl Tryz.ntmps17 (Nat.le_of_ble_eq_true rfl) ?_
 intro w0 hw0
 refine At.nrm ?_
 refine At.zl (.n false 0 (.q 1 (.q 2 .done))) ?_
 refine AtT.qZ ?_
 intro b2
 refine AtT.zg ?_
 refine AtT.zg ?_
 refine AtT.done ?_
 refine At.nrm ?_
 by_cases h0 : chE s = 0
 rotate_left
 ·refine At.zl (.q 0 (.n false 1 (.q 2 (.q 3 (.q 4 (.q 5 (.q 6 .done))))))) ?_
  first | refine AtT.zD zP ?_ | refine AtT.zK zP ?_ | refine AtT.zC zP ?_
  refine AtT.qg rfl rfl ok57 (open_bad s h0 _ _ hv) ?_
  rintro v16 V16 hV16 rfl
  refine AtT.zh ?_
  refine AtT.zN ?_
  refine AtT.zN ?_
  refine AtT.zg ?_
  refine AtT.zg ?_
  refine AtT.done ?_
  refine At.nrm ?_
  refine At.nrm ?_
  refine At.zl (.q 0 (.q 1 (.q 2 .done))) ?_
  refine AtT.zh ?_
  refine AtT.qG ?_
  refine AtT.zg ?_
  refine AtT.done ?_
  refine At.nrm ?_
  refine At.qA rfl (decide_eq_true h0) ?_
  refine At.nrm ?_
  refine At.zl (.q 0 (.q 1 (.q 2 .done))) ?_
  refine AtT.zh ?_
  refine AtT.zg ?_
  refine AtT.zg ?_
  refine AtT.done ?_
  refine At.nrm ?_
  exact At.je rfl (.tmp rfl) (.tmp rfl) (by unfold cpR; rw [if_pos h0])
 have hok := jq h0
 have hkn10 := hok.kn
 refine At.zl (.q 0 (.n false 1 (.q 2 (.q 3 (.q 4 (.q 5 (.q 6 .done))))))) ?_
 first | refine AtT.zD zP ?_ | refine AtT.zK zP ?_ | refine AtT.zC zP ?_
 refine AtT.qg rfl rfl ok57 (open_ok s h0 _ _ hv) ?_
 rintro v16 V16 hV16 ⟨b, rfl, hb⟩
 refine AtT.zh ?_
 refine AtT.zN ?_
 refine AtT.zN ?_
 refine AtT.zg ?_
 refine AtT.zg ?_
 refine AtT.done ?_
 refine At.nrm ?_
 refine At.nrm ?_
 refine At.zl (.q 0 (.q 1 (.q 2 .done))) ?_
 refine AtT.zh ?_
 refine AtT.qG ?_
 refine AtT.zg ?_
 refine AtT.done ?_
 refine At.nrm ?_
 refine At.qX rfl rfl ?_
 refine At.nrm ?_
 refine At.zl (.q 0 (.q 1 (.q 2 (.q 3 .done)))) ?_
 refine AtT.zh ?_
 first | refine AtT.zZ Tryz.underlying27 ?_ | refine AtT.qa Tryz.underlying27 ?_
 refine AtT.qw ?_
 refine AtT.zg ?_
 refine AtT.done ?_
 refine At.nrm ?_
 refine At.qc rfl (fun hp => ?_) (fun hp => ?_)
 ·refine At.nrm ?_
  refine At.zl (.q 0 (.q 1 .done)) ?_
  refine AtT.zg ?_
  refine AtT.zg ?_
  refine AtT.done ?_
  refine At.nrm ?_
  exact At.je rfl (.tmp rfl) (.tmp rfl) (by unfold cpR; rw [if_neg (by simpa using h0), if_pos (by omega)])
 refine At.nrm ?_
 refine At.zl (.q 0 .done) ?_
 refine AtT.zg ?_
 refine AtT.done ?_
 refine At.nrm ?_
 refine At.zl (.q 0 (.q 1 (.q 2 .done))) ?_
 refine AtT.zh ?_
 first | refine AtT.zZ Tryz.underlying27 ?_ | refine AtT.qa Tryz.underlying27 ?_
 refine AtT.zh ?_
 refine AtT.done ?_
 refine At.nrm ?_
 have hu2 := hu.le hV16
 refine At.lp (ι := Nat) (KS := fun k => [(1, .slice a1 ps.length c1), (6, .pointer (some ⟨b, 0, none⟩)), (8, iv (arL (ps.take k))), (27, .slice a1 ps.length c1), (28, iv ps.length), (29, iv k)]) (OS := fun _ => [])
  (VS := fun k V' => V' = V16 ∧ k ≤ ps.length ∧ ∀ q ∈ ps.take k, Lies (gdS s) q) (μ := fun k => ps.length - k) 0 ?_ ?_ ?_ ?_
 ·exact ⟨rfl, rfl, rfl, rfl, rfl, rfl, trivial⟩
 ·exact Pt.zM
 ·exact ⟨rfl, Nat.zero_le _, fun q hq => by simp at hq⟩
 rintro k V' ks' O' ⟨rfl, hkl, hlk⟩ hk hO hl2
 subst hk hO
 refine At.nrm ?_
 refine At.zl (.q 0 .done) ?_
 refine AtT.zY ?_
 refine AtT.done ?_
 refine At.nrm ?_
 refine At.qc rfl (fun hp2 => ?_) (fun hp2 => ?_)
 ·obtain ⟨p, hpk⟩ : ∃ p, ps[k]? = some p := ⟨_, List.getElem?_eq_getElem (by omega)⟩
  have htk := arL_take hpk
  refine At.nrm ?_
  refine At.zl (.q 0 (.q 1 (.n false 2 (.n true 3 .done)))) ?_
  refine AtT.qo Tryz.underlying27 zS ?_
  intro p31 e31 he31 hc31
  obtain rfl : p = e31 := by have : ps[k]? = some e31 := (by simpa using he31); rw [hpk] at this; simpa using this
  first | refine AtT.zD zS ?_ | refine AtT.zK zS ?_ | refine AtT.zC zS ?_
  refine AtT.qx z26 ?_
  intro b10
  refine AtT.zW zS ?_
  refine AtT.done ?_
  refine At.nrm ?_
  refine At.nrm ?_
  refine At.zl (.q 0 (.q 1 (.n false 2 (.q 3 .done)))) ?_
  refine AtT.zh ?_
  first | refine AtT.zD zS ?_ | refine AtT.zK zS ?_ | refine AtT.zC zS ?_
  refine AtT.zq rfl rfl ok58 (lies_f s hok p _ b hb) ?_
  rintro _ rfl
  refine AtT.zg ?_
  refine AtT.done ?_
  refine At.nrm ?_
  refine At.nrm ?_
  refine At.zl (.q 0 (.q 1 .done)) ?_
  refine AtT.zh ?_
  refine AtT.qG ?_
  refine AtT.done ?_
  refine At.nrm ?_
  refine At.qc rfl (fun he => ?_) (fun he => ?_)
  ·have hfr := frE_at hlk hpk he
   refine At.nrm ?_
   refine At.zl (.q 0 (.q 1 (.q 2 .done))) ?_
   refine AtT.zh ?_
   refine AtT.zg ?_
   refine AtT.zg ?_
   refine AtT.done ?_
   refine At.nrm ?_
   exact At.je rfl (.tmp rfl) (.tmp rfl) (by unfold cpR; rw [if_neg (by simpa using h0), if_neg (by omega), hfr, if_pos he])
  have hpl := peE_iff.1 (Classical.not_not.1 he)
  have hbd := lies_bd hok hpl
  have hls : ∀ q ∈ ps.take (k + 1), Lies (gdS s) q := fun q hq => by
   rw [List.take_succ_eq_append_getElem (by omega)] at hq
   rcases List.mem_append.1 hq with h | h
   ·exact hlk q h
   ·have e := List.getElem?_eq_getElem (l := ps) (i := k) (by omega)
    rw [hpk] at e
    rw [List.mem_singleton.1 h, ← Option.some.inj e]; exact hpl
  have h1 := arL_bd (sh_gok hok) hlk
  have h2 := arL_bd (sh_gok hok) hls
  rw [List.length_take] at h1 h2
  have h3 := hpl.most
  have h4 := ar_pos hpl
  have h5 := (sh_gok hok).most
  have hap : arP p = p.h * p.w := rfl
  have hfit : Fit (p.h * p.w) := Fit.of (by omega) (by omega)
  have hfit2 : Fit (arL (ps.take k) + p.h * p.w) := Fit.of (by omega) (by omega)
  refine At.nrm ?_
  refine At.zl (.q 0 (.q 1 (.q 2 (.q 3 (.q 4 (.q 5 (.q 6 (.q 7 .done)))))))) ?_
  refine AtT.zh ?_
  first | refine AtT.zi zy ?_ | with_reducible refine AtT.zk zy ?_ | refine AtT.zn zy ?_
  first | refine AtT.zm tk3 ?_ | refine AtT.zo tk3 ?_
  first | refine AtT.zi zx ?_ | with_reducible refine AtT.zk zx ?_ | refine AtT.zn zx ?_
  first | refine AtT.zm tk3 ?_ | refine AtT.zo tk3 ?_
  first | refine AtT.kmul ?_ | refine AtT.kmulW ?_
  first | refine AtT.qj ?_ | refine AtT.zU ?_
  refine AtT.zg ?_
  refine AtT.done ?_
  refine At.nrm ?_
  refine At.nrm ?_
  refine At.zl (.q 0 (.q 1 .done)) ?_
  first | refine AtT.qj ?_ | refine AtT.zU ?_
  refine AtT.zh ?_
  refine AtT.done ?_
  refine At.nrm ?_
  refine At.round (k + 1) ?_ ?_ ?_ ?_
  ·show ps.length - (k + 1) < ps.length - k; omega
  ·exact ⟨rfl, by omega, hls⟩
  ·rw [htk]; exact ⟨rfl, rfl, rfl, rfl, rfl, ivs (by omega), trivial⟩
  ·exact Pt.zM
 obtain rfl : k = ps.length := by omega
 rw [List.take_length] at hlk
 have hf0 : frE (gdS s) ps = 0 := frE_ok.2 hlk
 obtain ⟨ab, cb, ak, ck, hc0, hc1, hc2, hc3, hsb, hsk⟩ := bn_get hb
 refine At.nrm ?_
 refine At.zl (.q 0 (.q 1 (.q 2 (.q 3 (.q 4 (.q 5 .done)))))) ?_
 refine AtT.zh ?_
 refine AtT.knil ?_
 first | refine AtT.zi qp ?_ | with_reducible refine AtT.zk qp ?_ | refine AtT.zn qp ?_
 first | refine AtT.zm tk84 ?_ | refine AtT.zo tk84 ?_
 first | refine AtT.zZ Tryz.underlying84 ?_ | refine AtT.qa Tryz.underlying84 ?_
 refine AtT.zh ?_
 refine AtT.done ?_
 refine At.nrm ?_
 refine At.lp (ι := Nat) (KS := fun k => [(1, .slice a1 ps.length c1), (8, iv (arL ps)), (50, .slice ak (knL s).length ck), (51, iv (knL s).length), (52, iv k)]) (OS := fun _ => [])
  (VS := fun k V2 => Le V' V2 ∧ k ≤ (knL s).length ∧ ((knL s).take k).all (hasB ps) = true) (μ := fun k => (knL s).length - k) 0 ?_ ?_ ?_ ?_
 ·rw [List.take_length]; exact ⟨rfl, rfl, rfl, rfl, rfl, trivial⟩
 ·exact Pt.zM
 ·exact ⟨Le.refl _, Nat.zero_le _, rfl⟩
 rintro k V2 ks' O' ⟨hV2, hkl, hal⟩ hk hO hl3
 subst hk hO
 have hsk2 := hsk.le hV2
 have hu3 := hu2.le hV2
 refine At.nrm ?_
 refine At.zl (.q 0 .done) ?_
 refine AtT.zY ?_
 refine AtT.done ?_
 refine At.nrm ?_
 refine At.qc rfl (fun hp3 => ?_) (fun hp3 => ?_)
 ·obtain ⟨x, hx⟩ : ∃ x, (knL s)[k]? = some x := ⟨_, List.getElem?_eq_getElem (by omega)⟩
  refine At.nrm ?_
  refine At.zl (.q 0 (.q 1 (.n false 2 (.n true 3 .done)))) ?_
  refine AtT.qo Tryz.underlying84 tk90 ?_
  intro p54 e54 he54 hc54
  obtain rfl : x = e54 := by have : (knL s)[k]? = some e54 := (by simpa using he54); rw [hx] at this; simpa using this
  first | refine AtT.zD tk90 ?_ | refine AtT.zK tk90 ?_ | refine AtT.zC tk90 ?_
  refine AtT.qx z90 ?_
  intro b13
  refine AtT.zW tk90 ?_
  refine AtT.done ?_
  refine At.nrm ?_
  refine At.nrm ?_
  refine At.zl (.q 0 (.q 1 (.n false 2 (.q 3 .done)))) ?_
  refine AtT.zh ?_
  refine AtT.kfn ?_
  refine AtT.kcallL rfl rfl ok59 (fun VL hVL hOL => contains_p 60 [.pointer (some ⟨b13, 0, none⟩)] (fun p => decide (inP p x)) VL _ ps (hu3.le hVL) ok60 (fun p hp => has1_f p x (lies_bd hok (hlk p hp)) VL _ (qO (hOL b13 _ (List.mem_cons_self ..))))) ?_
  rintro _ rfl
  refine AtT.qW ?_
  refine AtT.done ?_
  refine At.nrm ?_
  have htk : (knL s).take (k + 1) = (knL s).take k ++ [x] := by
   rw [List.take_succ_eq_append_getElem (by omega)]; congr 1; rw [List.getElem?_eq_getElem (by omega)] at hx; simpa using hx
  cases hh : hasB ps x with
  | false =>
   unfold hasB at hh
   rw [hh]
   refine At.qA rfl rfl ?_
   have hna : ¬ (knL s).all (hasB ps) = true := fun h => by
    have := List.all_eq_true.1 h x (List.mem_of_getElem? hx)
    unfold hasB at this; rw [hh] at this; cases this
   refine At.nrm ?_
   refine At.zl (.q 0 (.q 1 .done)) ?_
   refine AtT.zg ?_
   refine AtT.zg ?_
   refine AtT.done ?_
   refine At.nrm ?_
   exact At.je rfl (.tmp rfl) (.tmp rfl) (by unfold cpR; rw [if_neg (by simpa using h0), if_neg (by omega), if_neg (by rw [hf0]; simp), if_neg hna])
  | true =>
   have hh' := hh
   unfold hasB at hh
   rw [hh]
   refine At.qX rfl rfl ?_
   refine At.nrm ?_
   refine At.zl (.q 0 (.q 1 .done)) ?_
   first | refine AtT.qj ?_ | refine AtT.zU ?_
   refine AtT.zh ?_
   refine AtT.done ?_
   refine At.nrm ?_
   refine At.round (k + 1) ?_ ?_ ?_ ?_
   ·show (knL s).length - (k + 1) < (knL s).length - k; omega
   ·exact ⟨hV2, by omega, by rw [htk, List.all_append, hal]; simp [hh']⟩
   ·exact ⟨rfl, rfl, rfl, rfl, ivs (by omega), trivial⟩
   ·exact Pt.zM
 obtain rfl : k = (knL s).length := by omega
 rw [List.take_length] at hal
 refine At.nrm ?_
 refine At.zl (.q 0 (.q 1 (.q 2 .done))) ?_
 refine AtT.zh ?_
 refine AtT.zg ?_
 refine AtT.zg ?_
 refine AtT.done ?_
 refine At.nrm ?_
 exact At.je rfl (.tmp rfl) (.tmp rfl) (by unfold cpR; rw [if_neg (by simpa using h0), if_neg (by omega), if_neg (by rw [hf0]; simp), if_pos hal])
end Go.Proofs.YtghomjjffllkeaaGreatDoor
set_option linter.unusedVariables false
namespace Go.Proofs.YtghomjjffllkeaaGreatDoor
open Go.Lw Go.Gl Go.Pm Go.RowKit
theorem rcheckPatches_f (s : Sh) (ps : List Pc) (V : View) (v u : Value) (hv : ShV V v s) (hu : Sl V pce 4 u ps) : Fnc Tryz.prog 18 [v, u] V fun r _ => r = .tuple #[iv (cpR s ps).1, iv (cpR s ps).2] := by
 obtain ⟨a, c, rfl, hs⟩ := id hv
 obtain ⟨a1, c1, rfl, k1, k2, _⟩ := id hu
 clear k1 k2
 have hlen := hu.jf
 refine qh Tryz.func18 rfl Tryz.ntmps18 (Nat.le_of_ble_eq_true rfl) ?_
 intro w0 hw0
 refine At.nrm ?_
 refine At.zl (.n false 0 (.q 1 (.q 2 .done))) ?_
 refine AtT.qZ ?_
 intro b2
 refine AtT.zg ?_
 refine AtT.zg ?_
 refine AtT.done ?_
 refine At.nrm ?_
 refine At.zl (.q 0 (.n false 1 (.q 2 .done))) ?_
 first | refine AtT.zD zP ?_ | refine AtT.zK zP ?_ | refine AtT.zC zP ?_
 refine AtT.zq rfl rfl ok20 (rsheet_f s _ _ hv) ?_
 rintro _ rfl
 refine AtT.qG ?_
 refine AtT.done ?_
 refine At.nrm ?_
 refine At.qc rfl (fun h0 => ?_) (fun h0 => ?_)
 ·refine At.nrm ?_
  refine At.zl (.q 0 (.n false 1 (.q 2 (.q 3 .done)))) ?_
  first | refine AtT.zD zP ?_ | refine AtT.zK zP ?_ | refine AtT.zC zP ?_
  refine AtT.zq rfl rfl ok20 (rsheet_f s _ _ hv) ?_
  rintro _ rfl
  refine AtT.zg ?_
  refine AtT.zg ?_
  refine AtT.done ?_
  refine At.nrm ?_
  exact At.je rfl (.tmp rfl) (.tmp rfl) (by unfold cpR; rw [if_pos h0])
 have hok := jq (Classical.not_not.1 h0)
 have hkn10 := hok.kn
 have hn6 := hok.n
 have hw6 := hok.w
 refine At.nrm ?_
 refine At.zl (.q 0 (.q 1 (.q 2 .done))) ?_
 refine AtT.zh ?_
 first | refine AtT.zZ Tryz.underlying27 ?_ | refine AtT.qa Tryz.underlying27 ?_
 refine AtT.qw ?_
 refine AtT.done ?_
 refine At.nrm ?_
 refine At.qc rfl (fun hp => ?_) (fun hp => ?_)
 ·refine At.nrm ?_
  refine At.zl (.q 0 (.q 1 .done)) ?_
  refine AtT.zg ?_
  refine AtT.zg ?_
  refine AtT.done ?_
  refine At.nrm ?_
  exact At.je rfl (.tmp rfl) (.tmp rfl) (by unfold cpR; rw [if_neg (by simpa using h0), if_pos (by omega)])
 refine At.nrm ?_
 refine At.zl (.q 0 .done) ?_
 refine AtT.zg ?_
 refine AtT.done ?_
 refine At.nrm ?_
 refine At.zl (.q 0 .done) ?_
 refine AtT.zg ?_
 refine AtT.done ?_
 refine At.nrm ?_
 refine At.lp (ι := Nat) (KS := fun k => [(1, .slice a1 ps.length c1), (2, .pointer (some ⟨b2, 0, none⟩)), (6, iv (arL (ps.take k))), (7, iv k)]) (OS := fun _ => [.blk b2 (LC [.slice a s.rows.length c, iv s.most] 24)])
  (VS := fun k V' => V = V' ∧ k ≤ ps.length ∧ ∀ q ∈ ps.take k, Lies (gdS s) q) (μ := fun k => ps.length - k) 0 ?_ ?_ ?_ ?_
 ·exact ⟨rfl, rfl, rfl, rfl, trivial⟩
 ·exact Pt.zM
 ·exact ⟨rfl, Nat.zero_le _, fun q hq => by simp at hq⟩
 rintro k _ ks' O' ⟨rfl, hkl, hlk⟩ hk hO hl2
 subst hk hO
 refine At.nrm ?_
 refine At.zl (.q 0 (.q 1 (.q 2 (.q 3 .done)))) ?_
 refine AtT.zh ?_
 refine AtT.zh ?_
 first | refine AtT.zZ Tryz.underlying27 ?_ | refine AtT.qa Tryz.underlying27 ?_
 refine AtT.zY ?_
 refine AtT.done ?_
 refine At.nrm ?_
 refine At.qc rfl (fun hp2 => ?_) (fun hp2 => ?_)
 ·obtain ⟨p, hpk⟩ : ∃ p, ps[k]? = some p := ⟨_, List.getElem?_eq_getElem (by omega)⟩
  have htk := arL_take hpk
  refine At.nrm ?_
  refine At.jo (ι := Unit) (fun _ => [(1, .slice a1 ps.length c1), (2, .pointer (some ⟨b2, 0, none⟩)), (6, iv (arL (ps.take k))), (7, iv k), (32, .bool (decide (peE (gdS s) p ≠ 0)))]) (fun _ => [.blk b2 (LC [.slice a s.rows.length c, iv s.most] 24)]) (fun _ V'' => V = V'') ?_ ?_
  ·refine At.draw (.q 0 (.q 1 (.q 2 (.q 3 (.q 4 (.n false 5 (.q 6 .done))))))) ffm (by kernel_rfl) ?_
   first | refine AtT.zD zP ?_ | refine AtT.zK zP ?_ | refine AtT.zC zP ?_
   refine AtT.zh ?_
   refine AtT.zh ?_
   refine AtT.qo Tryz.underlying27 zS ?_
   intro p29 e29 he29 hc29
   first | refine AtT.zD zS ?_ | refine AtT.zK zS ?_ | refine AtT.zC zS ?_
   obtain rfl : p = e29 := by have : ps[k]? = some e29 := (by simpa using he29); rw [hpk] at this; simpa using this
   refine AtT.zq rfl rfl ok51 (rpe_f s hok p _ _ hv) ?_
   rintro _ rfl
   refine AtT.qG ?_
   refine AtT.done ?_
   refine At.nrm ?_
   all_goals (exact At.qC () rfl ⟨rfl, rfl, rfl, rfl, rfl, trivial⟩ Pt.zM)
  rintro _ _ ks' O' rfl hk hO hl3
  subst hk hO
  refine At.qc rfl (fun he => ?_) (fun he => ?_)
  ·have hfr := frE_at hlk hpk he
   refine At.nrm ?_
   refine At.draw (.q 0 (.q 1 (.q 2 (.q 3 (.q 4 (.n false 5 (.q 6 (.q 7 .done)))))))) ffm (by kernel_rfl) ?_
   first | refine AtT.zD zP ?_ | refine AtT.zK zP ?_ | refine AtT.zC zP ?_
   refine AtT.zh ?_
   refine AtT.zh ?_
   refine AtT.qo Tryz.underlying27 zS ?_
   intro p36 e36 he36 hc36
   first | refine AtT.zD zS ?_ | refine AtT.zK zS ?_ | refine AtT.zC zS ?_
   obtain rfl : p = e36 := by have : ps[k]? = some e36 := (by simpa using he36); rw [hpk] at this; simpa using this
   refine AtT.zq rfl rfl ok51 (rpe_f s hok p _ _ hv) ?_
   rintro _ rfl
   refine AtT.zg ?_
   refine AtT.zg ?_
   refine AtT.done ?_
   refine At.nrm ?_
   all_goals (exact At.je rfl (.tmp rfl) (.tmp rfl) (by unfold cpR; rw [if_neg (by simpa using h0), if_neg (by omega), hfr, if_pos he]))
  have hpl := peE_iff.1 (Classical.not_not.1 he)
  have hbd := lies_bd hok hpl
  have hls : ∀ q ∈ ps.take (k + 1), Lies (gdS s) q := fun q hq => by
   rw [List.take_succ_eq_append_getElem (by omega)] at hq
   rcases List.mem_append.1 hq with h | h
   ·exact hlk q h
   ·have e := List.getElem?_eq_getElem (l := ps) (i := k) (by omega)
    rw [hpk] at e
    rw [List.mem_singleton.1 h, ← Option.some.inj e]; exact hpl
  have h1 := arL_bd (sh_gok hok) hlk
  have h2 := arL_bd (sh_gok hok) hls
  rw [List.length_take] at h1 h2
  have h3 := hpl.most
  have h4 := ar_pos hpl
  have h5 := (sh_gok hok).most
  have hap : arP p = p.h * p.w := rfl
  have hfit : Fit (p.h * p.w) := Fit.of (by omega) (by omega)
  have hfit2 : Fit (arL (ps.take k) + p.h * p.w) := Fit.of (by omega) (by omega)
  refine At.nrm ?_
  refine At.jo (ι := Unit) (fun _ => [(1, .slice a1 ps.length c1), (2, .pointer (some ⟨b2, 0, none⟩)), (6, iv (arL (ps.take (k + 1)))), (7, iv k)]) (fun _ => [.blk b2 (LC [.slice a s.rows.length c, iv s.most] 24)]) (fun _ V'' => V = V'') ?_ ?_
  ·rw [htk]
   refine At.draw (.q 0 (.q 1 (.q 2 (.q 3 (.q 4 (.q 5 (.q 6 (.q 7 (.q 8 (.q 9 (.q 10 (.q 11 (.q 12 (.q 13 .done)))))))))))))) ffm (by kernel_rfl) ?_
   refine AtT.zh ?_
   refine AtT.zh ?_
   refine AtT.zh ?_
   refine AtT.qo Tryz.underlying27 zS ?_
   intro p42 e42 he42 hc42
   first | refine AtT.zi zy ?_ | with_reducible refine AtT.zk zy ?_ | refine AtT.zn zy ?_
   obtain rfl : p = e42 := by have : ps[k]? = some e42 := (by simpa using he42); rw [hpk] at this; simpa using this
   first | refine AtT.zm tk3 ?_ | refine AtT.zo tk3 ?_
   refine AtT.zh ?_
   refine AtT.zh ?_
   refine AtT.qo Tryz.underlying27 zS ?_
   intro p47 e47 he47 hc47
   first | refine AtT.zi zx ?_ | with_reducible refine AtT.zk zx ?_ | refine AtT.zn zx ?_
   obtain rfl : p = e47 := by have : ps[k]? = some e47 := (by simpa using he47); rw [hpk] at this; simpa using this
   first | refine AtT.zm tk3 ?_ | refine AtT.zo tk3 ?_
   first | refine AtT.kmul ?_ | refine AtT.kmulW ?_
   first | refine AtT.qj ?_ | refine AtT.zU ?_
   refine AtT.zg ?_
   refine AtT.done ?_
   refine At.nrm ?_
   all_goals (exact At.qC () rfl ⟨rfl, rfl, rfl, rfl, trivial⟩ Pt.zM)
  rintro _ _ ks' O' rfl hk hO hl3
  subst hk hO
  refine At.nrm ?_
  refine At.zl (.q 0 (.q 1 (.q 2 .done))) ?_
  refine AtT.zh ?_
  first | refine AtT.qj ?_ | refine AtT.zU ?_
  refine AtT.zg ?_
  refine AtT.done ?_
  refine At.nrm ?_
  refine At.round (k + 1) ?_ ?_ ?_ ?_
  ·show ps.length - (k + 1) < ps.length - k; omega
  ·exact ⟨rfl, by omega, hls⟩
  ·exact ⟨rfl, rfl, rfl, ivs (by omega), trivial⟩
  ·exact Pt.zM
 obtain rfl : k = ps.length := by omega
 rw [List.take_length] at hlk ⊢
 have hf0 : frE (gdS s) ps = 0 := frE_ok.2 hlk
 refine At.nrm ?_
 refine At.zl (.q 0 (.n false 1 (.q 2 .done))) ?_
 first | refine AtT.zD zP ?_ | refine AtT.zK zP ?_ | refine AtT.zC zP ?_
 refine AtT.qg rfl rfl ok44 (knotsOf_f s (by omega) (fun r hr => by have := hok.sz r hr; omega) _ _ hv) ?_
 rintro v53 V53 hV53 hs53; obtain ⟨ak, ck, rfl, _⟩ := id hs53
 refine AtT.zg ?_
 refine AtT.done ?_
 refine At.nrm ?_
 have hu2 := hu.le hV53
 refine At.zl (.q 0 .done) ?_
 refine AtT.zg ?_
 refine AtT.done ?_
 refine At.nrm ?_
 refine At.lp (ι := Nat) (KS := fun k => [(1, .slice a1 ps.length c1), (6, iv (arL ps)), (8, .slice ak (knL s).length ck), (9, iv k)]) (OS := fun _ => [])
  (VS := fun k V2 => Le V53 V2 ∧ k ≤ (knL s).length ∧ ((knL s).take k).all (hasB ps) = true) (μ := fun k => (knL s).length - k) 0 ?_ ?_ ?_ ?_
 ·exact ⟨rfl, rfl, rfl, rfl, trivial⟩
 ·exact Pt.zM
 ·exact ⟨Le.refl _, Nat.zero_le _, rfl⟩
 rintro k V2 ks' O' ⟨hV2, hkl, hal⟩ hk hO hl3
 subst hk hO
 have hsk2 := hs53.le hV2
 have hu3 := hu2.le hV2
 refine At.nrm ?_
 refine At.zl (.q 0 (.q 1 (.q 2 (.q 3 .done)))) ?_
 refine AtT.zh ?_
 refine AtT.zh ?_
 first | refine AtT.zZ Tryz.underlying58 ?_ | refine AtT.qa Tryz.underlying58 ?_
 refine AtT.zY ?_
 refine AtT.done ?_
 refine At.nrm ?_
 refine At.qc rfl (fun hp3 => ?_) (fun hp3 => ?_)
 ·obtain ⟨x, hx⟩ : ∃ x, (knL s)[k]? = some x := ⟨_, List.getElem?_eq_getElem (by omega)⟩
  have htk : (knL s).take (k + 1) = (knL s).take k ++ [x] := by
   rw [List.take_succ_eq_append_getElem (by omega)]; congr 1; rw [List.getElem?_eq_getElem (by omega)] at hx; simpa using hx
  refine At.nrm ?_
  refine At.zl (.q 0 .done) ?_
  refine AtT.zg ?_
  refine AtT.done ?_
  refine At.nrm ?_
  refine At.zl (.q 0 .done) ?_
  refine AtT.zg ?_
  refine AtT.done ?_
  refine At.nrm ?_
  refine At.lp (ι := Nat) (KS := fun j => [(1, .slice a1 ps.length c1), (6, iv (arL ps)), (8, .slice ak (knL s).length ck), (9, iv k), (10, .bool (hasB (ps.take j) x)), (11, iv j)]) (OS := fun _ => [])
   (VS := fun j V3 => V2 = V3 ∧ j ≤ ps.length) (μ := fun j => ps.length - j) 0 ?_ ?_ ?_ ?_
  ·exact ⟨rfl, rfl, rfl, rfl, rfl, rfl, trivial⟩
  ·exact Pt.zM
  ·exact ⟨rfl, Nat.zero_le _⟩
  rintro j _ ks' O' ⟨rfl, hjl⟩ hk hO hl4
  subst hk hO
  refine At.nrm ?_
  refine At.zl (.q 0 (.q 1 (.q 2 (.q 3 .done)))) ?_
  refine AtT.zh ?_
  refine AtT.zh ?_
  first | refine AtT.zZ Tryz.underlying27 ?_ | refine AtT.qa Tryz.underlying27 ?_
  refine AtT.zY ?_
  refine AtT.done ?_
  refine At.nrm ?_
  refine At.qc rfl (fun hp4 => ?_) (fun hp4 => ?_)
  ·obtain ⟨p, hpj⟩ : ∃ p, ps[j]? = some p := ⟨_, List.getElem?_eq_getElem (by omega)⟩
   have hbd := lies_bd hok (hlk p (List.mem_of_getElem? hpj))
   have hnx : hasB (ps.take (j + 1)) x = (hasB (ps.take j) x || decide (inP p x)) := by
    have e : ps.take (j + 1) = ps.take j ++ [p] := by
     rw [List.take_succ_eq_append_getElem (by omega)]; congr 1; rw [List.getElem?_eq_getElem (by omega)] at hpj; simpa using hpj
    unfold hasB; rw [e, List.any_append]; simp
   refine At.nrm ?_
   refine At.jo (ι := Unit) (fun _ => [(1, .slice a1 ps.length c1), (6, iv (arL ps)), (8, .slice ak (knL s).length ck), (9, iv k), (10, .bool (hasB (ps.take (j + 1)) x)), (11, iv j)]) (fun _ => []) (fun _ V'' => V2 = V'') ?_ ?_
   ·rw [hnx]
    cases hh : hasB (ps.take j) x with
    | true =>
     refine At.draw (.q 0 (.q 1 (.q 2 (.q 3 (.q 4 (.q 5 (.q 6 (.q 7 (.q 8 (.q 9 (.n false 10 (.q 11 (.q 12 .done))))))))))))) ffm (by kernel_rfl) ?_
     refine AtT.zh ?_
     refine AtT.zh ?_
     all_goals (first | refine AtT.kL 67 ?_ | refine AtT.zB (d := 67) rfl (fun hg67 => ?_) (fun hg67 => ?_) | refine AtT.zA (d := 67) rfl (fun hg67 => ?_) (fun hg67 => ?_))
     all_goals first|refine AtT.zf ?_|refine AtT.ze ?_|(refine AtT.zh ?_)
     all_goals first|refine AtT.zf ?_|refine AtT.ze ?_|(refine AtT.zh ?_)
     all_goals first|refine AtT.zf ?_|refine AtT.ze ?_|(refine AtT.qo Tryz.underlying27 zS ?_) ; (intro p70 e70 he70 hc70)
     all_goals first|refine AtT.zf ?_|refine AtT.ze ?_|(first | refine AtT.zD zS ?_ | refine AtT.zK zS ?_ | refine AtT.zC zS ?_)
     all_goals first|refine AtT.zf ?_|refine AtT.ze ?_|(refine AtT.zh ?_)
     all_goals first|refine AtT.zf ?_|refine AtT.ze ?_|(refine AtT.zh ?_)
     all_goals first|refine AtT.zf ?_|refine AtT.ze ?_|(refine AtT.qo Tryz.underlying58 tk67 ?_) ; (intro p74 e74 he74 hc74)
     all_goals first|refine AtT.zf ?_|refine AtT.ze ?_|(first | refine AtT.zD tk67 ?_ | refine AtT.zK tk67 ?_ | refine AtT.zC tk67 ?_)
     all_goals first|refine AtT.zO ?_|refine AtT.zI ?_|((fail))
     all_goals (refine AtT.zz ?_)
     all_goals (refine AtT.zg ?_)
     all_goals refine AtT.done ?_
     all_goals (refine At.nrm ?_)
     all_goals (exact At.qC () rfl ⟨rfl, rfl, rfl, rfl, rfl, rfl, trivial⟩ Pt.zM)
    | false =>
     refine At.draw (.q 0 (.q 1 (.q 2 (.q 3 (.q 4 (.q 5 (.q 6 (.q 7 (.q 8 (.q 9 (.n false 10 (.q 11 (.q 12 .done))))))))))))) ffm (by kernel_rfl) ?_
     refine AtT.zh ?_
     refine AtT.zh ?_
     all_goals (first | refine AtT.kL 67 ?_ | refine AtT.zB (d := 67) rfl (fun hg67 => ?_) (fun hg67 => ?_) | refine AtT.zA (d := 67) rfl (fun hg67 => ?_) (fun hg67 => ?_))
     all_goals first|refine AtT.zf ?_|refine AtT.ze ?_|(refine AtT.zh ?_)
     all_goals first|refine AtT.zf ?_|refine AtT.ze ?_|(refine AtT.zh ?_)
     all_goals first|refine AtT.zf ?_|refine AtT.ze ?_|(refine AtT.qo Tryz.underlying27 zS ?_) ; (intro p70 e70 he70 hc70)
     all_goals first|refine AtT.zf ?_|refine AtT.ze ?_|(first | refine AtT.zD zS ?_ | refine AtT.zK zS ?_ | refine AtT.zC zS ?_)
     all_goals (obtain rfl : p = e70 := by have : ps[j]? = some e70 := (by simpa using he70); rw [hpj] at this; simpa using this)
     all_goals first|refine AtT.zf ?_|refine AtT.ze ?_|(refine AtT.zh ?_)
     all_goals first|refine AtT.zf ?_|refine AtT.ze ?_|(refine AtT.zh ?_)
     all_goals first|refine AtT.zf ?_|refine AtT.ze ?_|(refine AtT.qo Tryz.underlying58 tk67 ?_) ; (intro p74 e74 he74 hc74)
     all_goals first|refine AtT.zf ?_|refine AtT.ze ?_|(first | refine AtT.zD tk67 ?_ | refine AtT.zK tk67 ?_ | refine AtT.zC tk67 ?_)
     all_goals (obtain rfl : x = e74 := by have : (knL s)[k]? = some e74 := (by simpa using he74); rw [hx] at this; simpa using this)
     all_goals first|refine AtT.zO ?_|refine AtT.zI ?_|((refine AtT.zq rfl rfl ok48 (rhas_f p x hbd _) ?_) ; (rintro _ rfl))
     all_goals (refine AtT.zz ?_)
     all_goals (refine AtT.zg ?_)
     all_goals refine AtT.done ?_
     all_goals (refine At.nrm ?_)
     all_goals (exact At.qC () rfl ⟨rfl, rfl, rfl, rfl, rfl, rfl, trivial⟩ Pt.zM)
   rintro _ _ ks' O' rfl hk hO hl5
   subst hk hO
   refine At.nrm ?_
   refine At.zl (.q 0 (.q 1 (.q 2 .done))) ?_
   refine AtT.zh ?_
   first | refine AtT.qj ?_ | refine AtT.zU ?_
   refine AtT.zg ?_
   refine AtT.done ?_
   refine At.nrm ?_
   refine At.round (j + 1) ?_ ?_ ?_ ?_
   ·show ps.length - (j + 1) < ps.length - j; omega
   ·exact ⟨rfl, by omega⟩
   ·exact ⟨rfl, rfl, rfl, rfl, rfl, ivs (by omega), trivial⟩
   ·exact Pt.zM
  obtain rfl : j = ps.length := by omega
  rw [List.take_length]
  refine At.nrm ?_
  refine At.zl (.q 0 (.q 1 .done)) ?_
  refine AtT.zh ?_
  refine AtT.qW ?_
  refine AtT.done ?_
  refine At.nrm ?_
  cases hh : hasB ps x with
  | false =>
   refine At.qA rfl rfl ?_
   have hna : ¬ (knL s).all (hasB ps) = true := fun h => by
    have := List.all_eq_true.1 h x (List.mem_of_getElem? hx)
    rw [hh] at this; cases this
   refine At.nrm ?_
   refine At.zl (.q 0 (.q 1 .done)) ?_
   refine AtT.zg ?_
   refine AtT.zg ?_
   refine AtT.done ?_
   refine At.nrm ?_
   exact At.je rfl (.tmp rfl) (.tmp rfl) (by unfold cpR; rw [if_neg (by simpa using h0), if_neg (by omega), if_neg (by rw [hf0]; simp), if_neg hna])
  | true =>
   refine At.qX rfl rfl ?_
   refine At.nrm ?_
   refine At.zl (.q 0 (.q 1 (.q 2 .done))) ?_
   refine AtT.zh ?_
   first | refine AtT.qj ?_ | refine AtT.zU ?_
   refine AtT.zg ?_
   refine AtT.done ?_
   refine At.nrm ?_
   refine At.round (k + 1) ?_ ?_ ?_ ?_
   ·show (knL s).length - (k + 1) < (knL s).length - k; omega
   ·exact ⟨hV2, by omega, by rw [htk, List.all_append, hal]; simp [hh]⟩
   ·exact ⟨rfl, rfl, rfl, ivs (by omega), trivial⟩
   ·exact Pt.zM
 obtain rfl : k = (knL s).length := by omega
 rw [List.take_length] at hal
 refine At.nrm ?_
 refine At.zl (.q 0 (.q 1 (.q 2 .done))) ?_
 refine AtT.zh ?_
 refine AtT.zg ?_
 refine AtT.zg ?_
 refine AtT.done ?_
 refine At.nrm ?_
 exact At.je rfl (.tmp rfl) (.tmp rfl) (by unfold cpR; rw [if_neg (by simpa using h0), if_neg (by omega), if_neg (by rw [hf0]; simp), if_pos hal])
end Go.Proofs.YtghomjjffllkeaaGreatDoor
set_option linter.unusedVariables false
namespace Go.Pm
open Go.Gl Go.Lw
theorem selK_lt {α : Type} {K : List α} {b i : Nat} (hb : b.testBit i = false) : ∀ n, i < n → (jb K b n).length + 1 ≤ n
 | n + 1, h => by
  have hle : ∀ m, (jb K b m).length ≤ m := by
   intro m
   induction m with
   | zero => exact Nat.le_refl _
   | succ m ih =>
    cases c : K[m]? with
    | none => simp only [jb, c]; omega
    | some x =>
     rw [selK_at c]
     split
     ·rw [List.length_append, List.length_singleton]; omega
     ·omega
  by_cases e : i = n
  ·subst e
   have := hle i
   cases c : K[i]? with
   | none => simp only [jb, c]; omega
   | some x => rw [selK_at c, if_neg (by rw [hb]; simp)]; omega
  ·have ih := selK_lt (K := K) hb n (by omega)
   cases c : K[n]? with
   | none => simp only [jb, c]; omega
   | some x =>
    rw [selK_at c]
    split
    ·rw [List.length_append, List.length_singleton]; omega
    ·omega
structure InI (g : Gd) (K : List Cl) (b i : Nat) (W : Nat → Nat × Int) (top : Int) (part : Nat) (f c : Int) (q0 : Nat) : Prop where
 le : ∀ q, Cand g K b i q → part < q → f < ((W (qI b q)).1 : Int) + 1 ∨ f = ((W (qI b q)).1 : Int) + 1 ∧ c ≤ (W (qI b q)).2 + arP (bbx (sel K q))
 ex : (f = top ∧ c = 0) ∨ (Cand g K b i q0 ∧ f = ((W (qI b q0)).1 : Int) + 1 ∧ c = (W (qI b q0)).2 + arP (bbx (sel K q0)))
variable {g : Gd} {K : List Cl} {b i : Nat} {W : Nat → Nat × Int} {top : Int} {part : Nat} {f c : Int} {q0 : Nat}
theorem in_start : InI g K b i W top b top 0 q0 := ⟨fun q h hq => absurd (sub_le h.sub) (by omega), .inl ⟨rfl, rfl⟩⟩
theorem in_past (h : ∀ q, Cand g K b i q → part < q → f < ((W (qI b q)).1 : Int) + 1 ∨ f = ((W (qI b q)).1 : Int) + 1 ∧ c ≤ (W (qI b q)).2 + arP (bbx (sel K q)))
  (hp : SubB part b) (hq : Cand g K b i part → f < ((W (qI b part)).1 : Int) + 1 ∨ f = ((W (qI b part)).1 : Int) + 1 ∧ c ≤ (W (qI b part)).2 + arP (bbx (sel K part))) :
  ∀ q, Cand g K b i q → (part - 1) &&& b < q → f < ((W (qI b q)).1 : Int) + 1 ∨ f = ((W (qI b q)).1 : Int) + 1 ∧ c ≤ (W (qI b q)).2 + arP (bbx (sel K q)) := fun q hc hlt => by
 by_cases e : part < q
 ·exact h q hc e
 ·by_cases e2 : q = part
  ·subst e2; exact hq hc
  ·have := next_part hc.sub hp (by omega)
   omega
theorem in_skip (h : InI g K b i W top part f c q0) (hp : SubB part b) (hn : ¬ Cand g K b i part) : InI g K b i W top ((part - 1) &&& b) f c q0 := ⟨in_past h.le hp fun hc => absurd hc hn, h.ex⟩
theorem in_keep (h : InI g K b i W top part f c q0) (hp : SubB part b) (hk : ¬ (((W (qI b part)).1 : Int) + 1 < f ∨ ((W (qI b part)).1 : Int) + 1 = f ∧ (W (qI b part)).2 + arP (bbx (sel K part)) < c)) : InI g K b i W top ((part - 1) &&& b) f c q0 :=
 ⟨in_past h.le hp fun _ => by omega, h.ex⟩
theorem in_new (h : InI g K b i W top part f c q0) (hp : SubB part b) (hc : Cand g K b i part) (hk : ((W (qI b part)).1 : Int) + 1 < f ∨ ((W (qI b part)).1 : Int) + 1 = f ∧ (W (qI b part)).2 + arP (bbx (sel K part)) < c) :
  InI g K b i W top ((part - 1) &&& b) (((W (qI b part)).1 : Int) + 1) ((W (qI b part)).2 + arP (bbx (sel K part))) part :=
 ⟨in_past (fun q hq hlt => by have := h.le q hq hlt; omega) hp fun _ => .inr ⟨rfl, Int.le_refl _⟩, .inr ⟨hc, rfl, rfl⟩⟩
theorem in_end (hg : GOk g) (hon : ∀ k ∈ K, OnG g k) (hf : ∀ k ∈ K, g.fig k.r k.c = false) (hK : K.length ≤ 10) (hlt : b < 2 ^ K.length) (h1 : b.testBit i = true) (hW : ∀ r, r < b → jr g (sel K r) (W r).1 (W r).2)
  (htop : (K.length : Int) < top) (h : InI g K b i W top 0 f c q0) : Cand g K b i q0 ∧ ∃ n : Nat, f = n ∧ jr g (sel K b) n c ∧ n = (W (qI b q0)).1 + 1 ∧ c = (W (qI b q0)).2 + arP (bbx (sel K q0)) := by
 have h10 : 2 ^ K.length ≤ 1024 := Nat.pow_le_pow_right (n := 2) (by decide) hK
 have hil := bit_lt hlt h1
 obtain ⟨k, hk⟩ : ∃ k, K[i]? = some k := ⟨_, List.getElem?_eq_getElem hil⟩
 have hsub : SubB (2 ^ i) b := fun j hj => by
  rw [Nat.testBit_two_pow, decide_eq_true_eq] at hj; subst hj; exact h1
 have hp0 : 2 ^ i ≠ 0 := by have := Nat.two_pow_pos i; omega
 have hpl : 2 ^ i < 1024 := by have := sub_le hsub; omega
 have hne : sel K (2 ^ i) ≠ [] := fun e => by
  have := (sel_one hk k).2 rfl
  rw [e] at this; cases this
 have hone : Cand g K b i (2 ^ i) := ⟨hsub, Nat.testBit_two_pow_self, by
  have hkm := List.mem_of_getElem? hk
  rw [bbx_mem hne (m := [k]) (by simp) (fun x hx => on_bd hg (hon x (sel_in hx))) (fun x => by rw [sel_one hk, List.mem_singleton])]
  exact lies_one hg (hon k hkm) (hf k hkm)⟩
 have hrl := rest_lt (b := b) (p := 2 ^ i) (by omega) hpl hsub hp0
 have hbr := hW _ hrl
 have hlen : (W (qI b (2 ^ i))).1 + 1 ≤ K.length := by
  have h2 := best_le_len hg (fun x hx => hon x (sel_in hx)) (fun x hx => hf x (sel_in hx)) hbr
  have h3 := selK_lt (K := K) (b := qI b (2 ^ i)) (i := i) (by rw [rest_bit (by omega) hpl, h1, Nat.testBit_two_pow_self]; rfl) K.length hil
  unfold sel at h2
  omega
 have hle := h.le _ hone (Nat.two_pow_pos i)
 rcases h.ex with ⟨h2, _⟩ | ⟨h2, h3, h4⟩
 ·omega
 ·refine ⟨h2, (W (qI b q0)).1 + 1, by omega, ?_, rfl, h4⟩
  refine best_bits hg hon hK hlt h1 hW ⟨q0, h2, rfl, h4⟩ fun q hq => ?_
  have hq0 : 0 < q := by
   have := big_bit hq.low; omega
  have := h.le q hq hq0
  omega
theorem best_bd (hg : GOk g) (hon : ∀ k ∈ K, OnG g k) (hf : ∀ k ∈ K, g.fig k.r k.c = false) {n : Nat} (h : jr g K n c) : n ≤ K.length ∧ 0 ≤ c ∧ c ≤ 36 * K.length := by
 have h1 := best_le_len hg hon hf h
 obtain ⟨ps, hp, h2, h3⟩ := h.ex
 have := arL_bd hg hp.lies
 omega
theorem sel_len (b : Nat) : (sel K b).length ≤ K.length := by
 have : ∀ m, (jb K b m).length ≤ m := by
  intro m
  induction m with
  | zero => exact Nat.le_refl _
  | succ m ih =>
   cases c : K[m]? with
   | none => simp only [jb, c]; omega
   | some x =>
    rw [selK_at c]
    split
    ·rw [List.length_append, List.length_singleton]; omega
    ·omega
 exact this _
structure DpI (g : Gd) (K : List Cl) (F C : List Int) (b : Nat) : Prop where
 lf : F.length = 2 ^ K.length
 lc : C.length = 2 ^ K.length
 ok : ∀ r, r < b → r < 2 ^ K.length → ∃ (n : Nat) (c : Int), F[r]? = some (n : Int) ∧ C[r]? = some c ∧ jr g (sel K r) n c
 rest : ∀ r, b ≤ r → r < 2 ^ K.length → C[r]? = some 0
theorem sel_zero : sel K 0 = [] := by
 apply List.eq_nil_iff_forall_not_mem.2
 intro x hx
 obtain ⟨j, _, h⟩ := qY.1 hx
 rw [Nat.zero_testBit] at h; cases h
end Go.Pm

set_option linter.unusedVariables false
namespace Go.Pm
open Go.Gl Go.Lw
def arK (K : List Cl) (x : Int) : Int := arP (bbx (sel K x.toNat))
abbrev ksL (n : Nat) : List Int := (List.range (2 ^ n - 1)).map fun (k : Nat) => ((k + 1 : Nat) : Int)
theorem ksL_len (n : Nat) : (ksL n).length = 2 ^ n - 1 := by simp [ksL]
theorem ksL_nodup (n : Nat) : (ksL n).Nodup := by
 unfold ksL
 exact (List.pairwise_map.2 ((List.nodup_range (n := 2 ^ n - 1)).imp fun {a b} h e => h (by have := Int.ofNat.inj e; omega)))
theorem ksL_at {n k : Nat} (h : k < 2 ^ n - 1) : (ksL n)[k]? = some ((k + 1 : Nat) : Int) := by simp only [ksL, List.getElem?_map, List.getElem?_range h]; rfl
theorem ksL_mem {n : Nat} {x : Int} (h : x ∈ ksL n) : 1 ≤ x ∧ x < (2 ^ n : Nat) := by
 obtain ⟨k, hk, rfl⟩ := List.mem_map.1 h
 have := List.mem_range.1 hk
 omega
theorem bbx_bd {K : List Cl} (hK : ∀ k ∈ K, 0 ≤ k.r ∧ k.r ≤ 99 ∧ 0 ≤ k.c ∧ k.c ≤ 99) (hne : K ≠ []) : 1 ≤ (bbx K).h ∧ (bbx K).h ≤ 100 ∧ 1 ≤ (bbx K).w ∧ (bbx K).w ≤ 100 ∧ 1 ≤ arP (bbx K) ∧ arP (bbx K) ≤ 10000 := by
 have b1 := mnL_bd (f := (·.r)) (l := K) fun k hk => (hK k hk).1
 have b2 := mnL_bd (f := (·.c)) (l := K) fun k hk => (hK k hk).2.2.1
 have b3 := mxL_bd (f := (·.r)) (l := K) fun k hk => (hK k hk).2.1
 have b4 := mxL_bd (f := (·.c)) (l := K) fun k hk => (hK k hk).2.2.2
 have hp := bbx_pos hne
 have hh : (bbx K).h = mxL (·.r) K - mnL (·.r) K + 1 := rfl
 have hw : (bbx K).w = mxL (·.c) K - mnL (·.c) K + 1 := rfl
 have h1 : (bbx K).h * (bbx K).w ≤ 100 * 100 := Int.mul_le_mul (by omega) (by omega) (by omega) (by omega)
 have h2 : (1 : Int) * 1 ≤ (bbx K).h * (bbx K).w := Int.mul_le_mul (by omega) (by omega) (by omega) (by omega)
 unfold arP
 omega
end Go.Pm
namespace Go.Proofs.YtghomjjffllkeaaGreatDoor
open Go.Lw Go.Gl Go.Pm Go.RowKit
abbrev ekS (x : Int) : Value := .agg #[iv x]
theorem key129 : KeyL Tryz.prog 129 ekS where
 eq a b w := (eqS129 a b).2 w
 ck e a w := by
  have u3 := Tryz.underlying3
  have a3 := Tryz.isAgg3
  have z3 := Tryz.sizeOf3
  have ci : ∀ (x : Int) (w : World), (Instr.checkKey e 9999 3 (.int .i64 x)).run Tryz.prog w = .ok () w := fun x w => by
   rw [show (9999 : Nat) = 9998 + 1 from rfl, Instr.checkKey]
   simp [run_underlying u3, Sem.run_bind, Result.andThen_ok, Sem.run_pure]
  rw [show (10000 : Nat) = 9999 + 1 from rfl, Instr.checkKey]
  simp only [Sem.run_bind, run_underlying Tryz.underlying129, Result.andThen_ok]
  rw [← Array.forIn_toList]
  simp only [List.forIn_cons, List.forIn_nil, Sem.run_bind, Sem.run_pure, Result.andThen_ok]
  generalize (9999 : Nat) = q at ci ⊢
  go_simp
 sb a := by simp [Instr.sameBits]
 now := ⟨_, Tryz.underlying129, .inl fun a b => rfl⟩
structure UnV (s : Sh) (V : View) (b : Nat) : Prop where
 ex : ∃ (M : MM Int Int) (c : Nat), V b = some (mobj ekS iv M c) ∧ (∀ e ∈ M, e.2.1 = arK (knL s) e.1) ∧ ∀ k : Nat, 1 ≤ k → k < 2 ^ (knL s).length → mhas (k : Int) M = decide (peE (gdS s) (bbx (sel (knL s) k)) = 0)
theorem UnV.le {s : Sh} {V V' : View} {b : Nat} (h : UnV s V b) (hl : Le V V') : UnV s V' b := by
 obtain ⟨M, c, h1, h2, h3⟩ := h.ex
 exact ⟨M, c, hl _ _ h1, h2, h3⟩
theorem under_f (s : Sh) (hok : ShOk s) (V : View) (b : Nat) (hb : BnV V b s) : Fnc Tryz.prog 90 [.pointer (some ⟨b, 0, none⟩)] V fun r V' => ∃ mb, r = .map (some mb) ∧ UnV s V' mb := by
 obtain ⟨a, c, ak, ck, hc0, hc1, hc2, hc3, hs, hsk⟩ := bn_get hb
 have hkn := hok.kn
 have hp0 : 0 < 2 ^ (knL s).length := Nat.two_pow_pos _
 have hp10 : 2 ^ (knL s).length ≤ 1024 := Nat.pow_le_pow_right (n := 2) (by decide) hkn
 have hkl := ksL_len (knL s).length
 have hnd := ksL_nodup (knL s).length
 have hsn : ∀ k : Nat, 1 ≤ k → k < 2 ^ (knL s).length → sel (knL s) k ≠ [] := fun k h1 h2 => sel_ne (by omega) h2
 have hsb : ∀ k : Nat, ∀ x ∈ sel (knL s) k, 0 ≤ x.r ∧ x.r ≤ 99 ∧ 0 ≤ x.c ∧ x.c ≤ 99 := fun k x hx => kn_bd hok x (sel_in hx)
 refine qh Tryz.func90 rfl Tryz.ntmps90 (Nat.le_of_ble_eq_true rfl) ?_
 intro w0 hw0
 refine At.nrm ?_
 refine At.zl (.q 0 .done) ?_
 refine AtT.zg ?_
 refine AtT.done ?_
 refine At.nrm ?_
 refine At.zl (.n false 0 (.q 1 .done)) ?_
 refine AtT.makeMap rfl trivial ekS iv (by decide) ?_
 intro b7
 refine AtT.zg ?_
 refine AtT.done ?_
 refine At.nrm ?_
 refine At.zl (.q 0 .done) ?_
 refine AtT.zg ?_
 refine AtT.done ?_
 refine At.nrm ?_
 refine At.lp (ι := Nat) (KS := fun k => [(0, .pointer (some ⟨b, 0, none⟩)), (3, .map (some b7)), (4, iv (k + 1))]) (OS := fun k => [.blk b7 (mobj ekS iv (mOf (arK (knL s)) ((ksL (knL s).length).take k) 0) k)])
  (VS := fun k V' => V = V' ∧ k + 1 ≤ 2 ^ (knL s).length) (μ := fun k => 2 ^ (knL s).length - k) 0 ?_ ?_ ?_ ?_
 ·exact ⟨rfl, rfl, rfl, trivial⟩
 ·exact Pt.zM
 ·exact ⟨rfl, hp0⟩
 rintro k _ ks' O' ⟨rfl, hkl2⟩ hk hO hl2
 subst hk hO
 refine At.nrm ?_
 refine At.zl (.q 0 (.q 1 (.q 2 (.q 3 (.q 4 (.q 5 (.q 6 (.q 7 .done)))))))) ?_
 refine AtT.zh ?_
 refine AtT.zh ?_
 refine AtT.knil ?_
 first | refine AtT.zi qp ?_ | with_reducible refine AtT.zk qp ?_ | refine AtT.zn qp ?_
 first | refine AtT.zm tk84 ?_ | refine AtT.zo tk84 ?_
 first | refine AtT.zZ Tryz.underlying84 ?_ | refine AtT.qa Tryz.underlying84 ?_
 refine AtT.shlN rfl trivial rfl rfl rfl (by omega) (by decide) (N := (knL s).length) ?_
 refine AtT.zY ?_
 refine AtT.done ?_
 refine At.nrm ?_
 refine At.qc rfl (fun hp => ?_) (fun hp => ?_)
 ·have hk : k < 2 ^ (knL s).length - 1 := by omega
  have htk := take_snoc' (ksL_at hk)
  have htl : ((ksL (knL s).length).take k).length = k := by rw [List.length_take]; omega
  have hpn : ∀ e ∈ mOf (arK (knL s)) ((ksL (knL s).length).take k) 0, e.1 ≠ ((k + 1 : Nat) : Int) := fun e he h => by
   have h1 := (mOf_mem _ he).1
   rw [h] at h1
   obtain ⟨j, hj, hje⟩ := List.mem_take_iff_getElem.1 h1
   simp only [ksL, List.getElem_map, List.getElem_range] at hje
   omega
  have eM : mOf (arK (knL s)) ((ksL (knL s).length).take (k + 1)) 0 = mOf (arK (knL s)) ((ksL (knL s).length).take k) 0 ++ [(((k + 1 : Nat) : Int), arK (knL s) ((k + 1 : Nat) : Int), k)] := by
   rw [htk, mOf_snoc, htl, Nat.zero_add]
  have hak : arK (knL s) ((k + 1 : Nat) : Int) = (bbx (sel (knL s) (k + 1))).h * (bbx (sel (knL s) (k + 1))).w := by unfold arK; rw [Int.toNat_natCast]; rfl
  have hbb := bbx_bd (hsb (k + 1)) (hsn (k + 1) (by omega) (by omega))
  have hap : arP (bbx (sel (knL s) (k + 1))) = (bbx (sel (knL s) (k + 1))).h * (bbx (sel (knL s) (k + 1))).w := rfl
  have hfit : Fit ((bbx (sel (knL s) (k + 1))).h * (bbx (sel (knL s) (k + 1))).w) := Fit.of (by omega) (by omega)
  have hkk : ((k : Int) + 1) = ((k + 1 : Nat) : Int) := by omega
  rw [hkk]
  refine At.nrm ?_
  refine At.zl (.q 0 (.q 1 (.q 2 (.n false 3 (.n false 4 (.n true 5 .done)))))) ?_
  refine AtT.zh ?_
  refine AtT.zh ?_
  refine AtT.ja (bd129_0 _) ?_
  refine AtT.zq rfl rfl ok93 (least_f s hok hkn (k + 1) (by omega) (hsn (k + 1) (by omega) (by omega)) _ b hb) ?_
  rintro _ rfl
  refine AtT.qx z26 ?_
  intro b5
  refine AtT.zW zS ?_
  refine AtT.done ?_
  refine At.nrm ?_
  refine At.nrm ?_
  refine At.zl (.q 0 (.q 1 (.q 2 (.q 3 (.q 4 (.q 5 (.q 6 (.q 7 (.n true 8 .done))))))))) ?_
  refine AtT.zh ?_
  refine AtT.zh ?_
  refine AtT.ja (bd129_0 _) ?_
  first | refine AtT.zi zy ?_ | with_reducible refine AtT.zk zy ?_ | refine AtT.zn zy ?_
  first | refine AtT.zm tk3 ?_ | refine AtT.zo tk3 ?_
  first | refine AtT.zi zx ?_ | with_reducible refine AtT.zk zx ?_ | refine AtT.zn zx ?_
  first | refine AtT.zm tk3 ?_ | refine AtT.zo tk3 ?_
  first | refine AtT.kmul ?_ | refine AtT.kmulW ?_
  rw [← hak]
  refine AtT.mapNew rfl trivial key129 ((k + 1 : Nat) : Int) (arK (knL s) ((k + 1 : Nat) : Int))  Tryz.underlying125 rfl rfl rfl (fk_new hpn) (by repeat first|exact Upd.here|apply Upd.there) ?_
  refine AtT.done ?_
  refine At.nrm ?_
  refine At.nrm ?_
  refine At.zl (.q 0 (.q 1 (.q 2 .done))) ?_
  refine AtT.zh ?_
  first | refine AtT.qj ?_ | refine AtT.zU ?_
  refine AtT.zg ?_
  refine AtT.done ?_
  refine At.nrm ?_
  refine At.round (k + 1) ?_ ?_ ?_ ?_
  ·show 2 ^ (knL s).length - (k + 1) < 2 ^ (knL s).length - k; omega
  ·exact ⟨rfl, by omega⟩
  ·exact ⟨rfl, rfl, by congr 2, trivial⟩
  rw [eM]
  ·exact Pt.zM
 obtain rfl : k = 2 ^ (knL s).length - 1 := by omega
 rw [List.take_of_length_le (by omega)]
 obtain ⟨M, hM⟩ : ∃ M, M = mOf (arK (knL s)) (ksL (knL s).length) 0 := ⟨_, rfl⟩
 rw [← hM]
 have hborn : (M.map (·.2.2)).Nodup := by rw [hM]; exact mOf_born _ _ _
 have hkeys : (M.map (·.1)).Nodup := by rw [hM, mOf_keys]; exact hnd
 have hlt : ∀ e ∈ M, e.2.2 < 2 ^ (knL s).length - 1 := fun e he => by rw [hM] at he; have := (mOf_mem _ he).2.2; omega
 have hval : ∀ e ∈ M, e.1 ∈ ksL (knL s).length ∧ e.2.1 = arK (knL s) e.1 := fun e he => by rw [hM] at he; exact ⟨(mOf_mem _ he).1, (mOf_mem _ he).2.1⟩
 refine At.nrm ?_
 refine At.zl (.q 0 (.n false 1 .done)) ?_
 refine AtT.zh ?_
 refine AtT.range rfl trivial Tryz.underlying125 rfl zX.zM (by decide) ?_
 intro b31
 refine AtT.done ?_
 refine At.nrm ?_
 refine At.lp (ι := Array Nat) (KS := fun _ => [(0, .pointer (some ⟨b, 0, none⟩)), (3, .map (some b7)), (31, .pointer (some ⟨b31, 0, none⟩))])
  (OS := fun seen => [.blk b31 (.mapIter (some b7) (2 ^ (knL s).length - 1) seen (2 ^ (knL s).length - 1)), .blk b7 (mobj ekS iv (left (fun e => decide (peE (gdS s) (bbx (sel (knL s) e.1.toNat)) = 0)) M seen) (2 ^ (knL s).length - 1))])
  (VS := fun _ V' => V = V') (μ := fun seen => (M.filter fun e => !seen.contains e.2.2).length) #[] ?_ ?_ ?_ ?_
 ·exact ⟨rfl, rfl, rfl, trivial⟩
 ·rw [left_nil]
  ·exact Pt.zM
 ·rfl
 rintro seen _ ks' O' rfl hk hO hl3
 subst hk hO
 have hsub : ∀ e ∈ left (fun e => decide (peE (gdS s) (bbx (sel (knL s) e.1.toNat)) = 0)) M seen, e ∈ M := fun e he => (List.mem_filter.1 he).1
 refine At.nrm ?_
 refine At.zl (.n true 0 (.q 1 .done)) ?_
 all_goals (refine AtT.next rfl trivial rfl zX.zM zX.zM (fun e he => hlt e (hsub e he)) (Nat.le_refl _) (by decide) (fun hall => ?_) (fun e he hns => ?_))
 all_goals (refine AtT.zN ?_)
 all_goals refine AtT.done ?_
 all_goals (refine At.nrm ?_)
 ·refine At.qX rfl rfl ?_
  rw [left_end hall]
  refine At.nrm ?_
  refine At.zl (.q 0 (.q 1 .done)) ?_
  refine AtT.zh ?_
  refine AtT.zg ?_
  refine AtT.done ?_
  refine At.nrm ?_
  refine At.giveB (b := b7) zX.zM (fun V5 hV5 hb8 => ?_)
  refine At.qb rfl (.tmp rfl) ⟨b7, rfl, ⟨_, _, hb8, fun e he => (hval e (List.mem_filter.1 he).1).2, fun k hk1 hk => ?_⟩⟩
  rw [Bool.eq_iff_iff, mhas_iff, decide_eq_true_eq]
  constructor
  ·rintro ⟨e, he, hek⟩
   obtain ⟨h1, h2⟩ := List.mem_filter.1 he
   rw [decide_eq_true_eq, hek, Int.toNat_natCast] at h2
   exact h2
  ·intro hf
   have hm : (k : Int) ∈ ksL (knL s).length := by
    have := List.mem_of_getElem? (ksL_at (n := (knL s).length) (k := k - 1) (by omega))
    rwa [show k - 1 + 1 = k by omega] at this
   obtain ⟨j, hj⟩ := mOf_has (arK (knL s)) (i := 0) hm
   rw [← hM] at hj
   exact ⟨_, List.mem_filter.2 ⟨hj, by simpa using hf⟩, rfl⟩
 ·refine At.qA rfl rfl ?_
  have heM := hsub e he
  have hun := unseen_lt heM hns
  have hnd2 : ((left (fun e => decide (peE (gdS s) (bbx (sel (knL s) e.1.toNat)) = 0)) M seen).map (·.2.2)).Nodup := hborn.sublist (List.filter_sublist.map _)
  have hek := ksL_mem (hval e heM).1
  obtain ⟨k, hke⟩ : ∃ k : Nat, e.1 = (k : Int) := ⟨e.1.toNat, by omega⟩
  have hkt : e.1.toNat = k := by omega
  refine At.nrm ?_
  refine At.zl (.n false 0 (.q 1 (.n false 2 (.n true 3 .done)))) ?_
  refine AtT.entry rfl trivial rfl zX.zM zX.zM he hnd2 (by decide) ?_
  refine AtT.zN ?_
  refine AtT.qx z129 ?_
  intro b6
  refine AtT.zW tk129 ?_
  refine AtT.done ?_
  refine At.nrm ?_
  refine At.nrm ?_
  refine At.zl (.q 0 (.q 1 (.q 2 (.n false 3 (.n false 4 (.q 5 .done)))))) ?_
  refine AtT.zh ?_
  refine AtT.zh ?_
  first | refine AtT.zD tk129 ?_ | refine AtT.zK tk129 ?_ | refine AtT.zC tk129 ?_
  refine AtT.zq rfl rfl ok93 ((by rw [hke]; exact least_f s hok hkn k (by omega) (hsn k (by omega) (by omega)) _ b hb)) ?_
  rintro _ rfl
  refine AtT.zq rfl rfl ok58 (lies_f s hok _ _ b hb) ?_
  rintro _ rfl
  refine AtT.qG ?_
  refine AtT.done ?_
  refine At.nrm ?_
  refine At.qc rfl (fun hm => ?_) (fun hm => ?_)
  ·have hg : decide (peE (gdS s) (bbx (sel (knL s) e.1.toNat)) = 0) = false := by rw [hkt]; exact decide_eq_false hm
   have hdel := left_del (g := fun e : Int × Int × Nat => decide (peE (gdS s) (bbx (sel (knL s) e.1.toNat)) = 0)) (seen := seen) hborn hkeys heM hg
   refine At.nrm ?_
   refine At.zl (.q 0 (.q 1 (.n true 2 .done))) ?_
   refine AtT.zh ?_
   first | refine AtT.zD tk129 ?_ | refine AtT.zK tk129 ?_ | refine AtT.zC tk129 ?_
   refine AtT.mapDel rfl trivial key129 e.1 iv rfl Tryz.underlying125 rfl rfl (by repeat first|exact Upd.here|apply Upd.there) ?_
   refine AtT.done ?_
   refine At.nrm ?_
   refine At.round (seen.push e.2.2) hun rfl ⟨rfl, rfl, rfl, trivial⟩ ?_
   rw [hdel]
   ·exact Pt.zM
  ·have hg : decide (peE (gdS s) (bbx (sel (knL s) e.1.toNat)) = 0) = true := by rw [hkt]; exact decide_eq_true (Decidable.not_not.1 hm)
   have hkeep := left_keep (g := fun e : Int × Int × Nat => decide (peE (gdS s) (bbx (sel (knL s) e.1.toNat)) = 0)) (seen := seen) hborn heM hg
   refine At.nrm ?_
   refine At.round (seen.push e.2.2) hun rfl ⟨rfl, rfl, rfl, trivial⟩ ?_
   rw [hkeep]
   ·exact Pt.zM
end Go.Proofs.YtghomjjffllkeaaGreatDoor
set_option linter.unusedVariables false
namespace Go.Pm
open Go.Gl Go.Lw
structure Wy where
 m : Int
 c : Int
 q : Nat
 deriving DecidableEq
abbrev wye (w : Wy) : List Value := [iv w.m, iv w.c, iv w.q]
abbrev wyv (w : Wy) : Value := .agg #[iv w.m, iv w.c, iv w.q]
theorem wye_len (w : Wy) : (wye w).length = 3 := rfl
def fwB (a b : Wy) : Bool := decide (a.m < b.m ∨ a.m = b.m ∧ a.c < b.c)
variable {g : Gd} {K : List Cl} {b i : Nat}
structure DpW (g : Gd) (K : List Cl) (L : List Wy) (b : Nat) : Prop where
 len : L.length = 2 ^ K.length
 ok : ∀ r, r < b → r < 2 ^ K.length → ∃ (n : Nat) (c : Int) (q : Nat), L[r]? = some ⟨n, c, q⟩ ∧ jr g (sel K r) n c ∧ (r ≠ 0 → ∃ i m d q', Cand g K r i q ∧ L[qI r q]? = some ⟨(m : Nat), d, q'⟩ ∧ n = m + 1 ∧ c = d + arP (bbx (sel K q)))
 rest : ∀ r, b ≤ r → r < 2 ^ K.length → L[r]? = some ⟨0, 0, 0⟩
def wW (L : List Wy) (r : Nat) : Nat × Int := ((L.getD r ⟨0, 0, 0⟩).m.toNat, (L.getD r ⟨0, 0, 0⟩).c)
theorem dw_w {L : List Wy} (h : DpW g K L b) {r : Nat} (hr : r < b) (hl : r < 2 ^ K.length) : (∃ q, L[r]? = some ⟨((wW L r).1 : Int), (wW L r).2, q⟩) ∧ jr g (sel K r) (wW L r).1 (wW L r).2 := by
 obtain ⟨n, c, q, h1, h2, _⟩ := h.ok r hr hl
 have e1 : (wW L r).1 = n := by unfold wW; simp [List.getD, h1]
 have e2 : (wW L r).2 = c := by unfold wW; simp [List.getD, h1]
 rw [e1, e2]
 exact ⟨⟨q, h1⟩, h2⟩
theorem dw_start : DpW g K (List.replicate (2 ^ K.length) ⟨0, 0, 0⟩) 1 := by
 have hp : 0 < 2 ^ K.length := Nat.two_pow_pos _
 refine ⟨List.length_replicate, fun r hr hl => ?_, fun r _ hl => by rw [List.getElem?_replicate, if_pos hl]⟩
 obtain rfl : r = 0 := by omega
 refine ⟨0, 0, 0, by rw [List.getElem?_replicate, if_pos hp]; rfl, ?_, fun h => absurd rfl h⟩
 rw [sel_zero]
 exact best_nil
theorem dw_step {L : List Wy} (h : DpW g K L b) (hb : b < 2 ^ K.length) (hb1 : b < 1024) {n : Nat} {c : Int} {q : Nat} (hB : jr g (sel K b) n c) (hC : Cand g K b i q) (hn : n = (wW L (qI b q)).1 + 1) (hc : c = (wW L (qI b q)).2 + arP (bbx (sel K q))) : DpW g K (L.set b ⟨(n : Int), c, q⟩) (b + 1) := by
 have hsub := hC.sub
 have hq0 := big_bit hC.low
 have hql := sub_le hsub
 have hlt : ∀ r q', r < 1024 → SubB q' r → q' ≠ 0 → qI r q' < r := fun r q' h1 h2 h3 => rest_lt h1 (by have := sub_le h2; omega) h2 h3
 refine ⟨by rw [List.length_set]; exact h.len, fun r hr hl => ?_, fun r hr hl => ?_⟩
 ·by_cases e : b = r
  ·subst e
   have h1 := hlt b q hb1 hsub hq0
   obtain ⟨⟨q', hq'⟩, _⟩ := dw_w h h1 (by omega)
   exact ⟨n, c, q, by rw [List.getElem?_set, if_pos rfl, if_pos (by rw [h.len]; exact hl)], hB, fun _ => ⟨i, _, _, q', hC, by rw [List.getElem?_set, if_neg (by omega)]; exact hq', hn, hc⟩⟩
  ·obtain ⟨m, d, q1, h1, h2, h3⟩ := h.ok r (by omega) hl
   refine ⟨m, d, q1, by rw [List.getElem?_set, if_neg e]; exact h1, h2, fun h0 => ?_⟩
   obtain ⟨i', m', d', q', x1, x2, x3⟩ := h3 h0
   have := hlt r q1 (by omega) x1.sub (big_bit x1.low)
   exact ⟨i', m', d', q', x1, by rw [List.getElem?_set, if_neg (by omega)]; exact x2, x3⟩
 ·rw [List.getElem?_set, if_neg (by omega)]
  exact h.rest r (by omega) hl
structure TrW (g : Gd) (K : List Cl) (L : List Wy) (n : Nat) (c : Int) (b : Nat) (ps : List Pc) : Prop where
 at_ : ∃ (m : Nat) (d : Int) (q : Nat), L[b]? = some ⟨m, d, q⟩ ∧ n = ps.length + m ∧ c = arL ps + d
 pcs : ∀ p ∈ ps, Lies g p ∧ ∃ q, q ≠ 0 ∧ q < 2 ^ K.length ∧ p = bbx (sel K q)
 has : ∀ k ∈ K, k ∈ sel K b ∨ ∃ p ∈ ps, inP p k
theorem tr_start {L : List Wy} (hK : K.length ≤ 10) (h : DpW g K L (2 ^ K.length)) : ∃ n c, jr g K n c ∧ TrW g K L n c (2 ^ K.length - 1) [] := by
 have hp : 0 < 2 ^ K.length := Nat.two_pow_pos _
 obtain ⟨n, c, q, h1, h2, _⟩ := h.ok (2 ^ K.length - 1) (by omega) (by omega)
 have hm : ∀ k, k ∈ sel K (2 ^ K.length - 1) ↔ k ∈ K := fun k => by
  rw [qY]
  constructor
  ·rintro ⟨i, h, _⟩; exact List.mem_of_getElem? h
  ·intro h
   obtain ⟨i, hi⟩ := List.getElem?_of_mem h
   exact ⟨i, hi, by rw [Nat.testBit_two_pow_sub_one, decide_eq_true_eq]; exact (List.getElem?_eq_some_iff.1 hi).1⟩
 exact ⟨n, c, best_mem h2 hm, ⟨n, c, q, h1, by simp, by simp [arL]⟩, fun p hp => (by cases hp), fun k hk => .inl ((hm k).2 hk)⟩
theorem tr_step {L : List Wy} (hK : K.length ≤ 10) (h : DpW g K L (2 ^ K.length)) {n : Nat} {c : Int} {ps : List Pc} (ht : TrW g K L n c b ps) (hb : b ≠ 0) (hlt : b < 2 ^ K.length) :
  ∃ w : Wy, L[b]? = some w ∧ w.q ≠ 0 ∧ w.q < 2 ^ K.length ∧ qI b w.q < b ∧ TrW g K L n c (qI b w.q) (ps ++ [bbx (sel K w.q)]) := by
 have h10 : 2 ^ K.length ≤ 1024 := Nat.pow_le_pow_right (n := 2) (by decide) hK
 obtain ⟨n1, c1, q, e1, _, e3⟩ := h.ok b hlt hlt
 obtain ⟨i, m', d', q', x1, x2, x3, x4⟩ := e3 hb
 obtain ⟨m, d, q2, y1, y2, y3⟩ := ht.at_
 rw [e1] at y1
 have y1 := Option.some.inj y1
 have z1 : (n1 : Int) = (m : Int) := congrArg Wy.m y1
 have z2 : c1 = d := congrArg Wy.c y1
 have hq0 := big_bit x1.low
 have hql := sub_le x1.sub
 have hcl := rest_lt (b := b) (p := q) (by omega) (by omega) x1.sub hq0
 have hq2 : q < 2 ^ K.length := by omega
 refine ⟨⟨(n1 : Int), c1, q⟩, e1, hq0, hq2, hcl, ⟨m', d', q', x2, by rw [List.length_append, List.length_singleton]; omega, by rw [arL_snoc]; show c = arL ps + arP (bbx (sel K q)) + d'; omega⟩, fun p hp => ?_, fun k hk => ?_⟩
 ·rcases List.mem_append.1 hp with hp | hp
  ·exact ht.pcs p hp
  ·rw [List.mem_singleton] at hp
   subst hp
   exact ⟨x1.lies, q, hq0, by omega, rfl⟩
 ·rcases ht.has k hk with h1 | ⟨p, hp, hi⟩
  ·obtain ⟨j, j1, j2⟩ := qY.1 h1
   cases hj : q.testBit j with
   | true => exact .inr ⟨_, List.mem_append_right _ (List.mem_singleton.2 rfl), bbx_in (qY.2 ⟨j, j1, hj⟩)⟩
   | false => exact .inl (qY.2 ⟨j, j1, by rw [rest_bit (by omega) (show q < 1024 by omega), j2, hj]; rfl⟩)
  ·exact .inr ⟨p, List.mem_append_left _ hp, hi⟩
theorem tr_end {L : List Wy} (h : DpW g K L (2 ^ K.length)) {n : Nat} {c : Int} {ps : List Pc} (ht : TrW g K L n c 0 ps) : Mends g K ps ∧ ps.length = n ∧ arL ps = c := by
 have hp : 0 < 2 ^ K.length := Nat.two_pow_pos _
 obtain ⟨m, d, q, y1, y2, y3⟩ := ht.at_
 obtain ⟨n1, c1, q1, e1, e2, _⟩ := h.ok 0 hp hp
 rw [sel_zero] at e2
 obtain ⟨u1, u2⟩ := best_uniq e2 best_nil
 rw [e1] at y1
 have y1 := Option.some.inj y1
 have z1 : (n1 : Int) = (m : Int) := congrArg Wy.m y1
 have z2 : c1 = d := congrArg Wy.c y1
 refine ⟨⟨fun p hp => (ht.pcs p hp).1, fun k hk => ?_⟩, by omega, by omega⟩
 rcases ht.has k hk with h1 | h1
 ·rw [sel_zero] at h1; cases h1
 ·exact h1
structure MnR (g : Gd) (K : List Cl) (ps : List Pc) : Prop where
 best : jr g K ps.length (arL ps)
 mends : Mends g K ps
 least : ∀ p ∈ ps, ∃ q, q ≠ 0 ∧ q < 2 ^ K.length ∧ p = bbx (sel K q)
theorem tr_done {L : List Wy} (h : DpW g K L (2 ^ K.length)) {n : Nat} {c : Int} {ps : List Pc} (hB : jr g K n c) (ht : TrW g K L n c 0 ps) : MnR g K ps := by
 obtain ⟨h1, h2, h3⟩ := tr_end h ht
 subst h2 h3
 exact ⟨hB, h1, fun p hp => (ht.pcs p hp).2⟩
end Go.Pm
set_option linter.unusedVariables false
namespace Go.Pm
open Go.Gl Go.Lw
theorem bestOf_take {α : Type} (lt : α → α → Bool) {out : α} {l : List α} {k : Nat} {x : α} (h : l[k]? = some x) : qP lt out (l.take (k + 1)) = if lt x (qP lt out (l.take k)) = true then x else qP lt out (l.take k) := by
 have hl := (List.getElem?_eq_some_iff.1 h).1
 rw [List.take_succ_eq_append_getElem hl, bestOf_snoc]
 rw [List.getElem?_eq_getElem hl] at h
 cases h; rfl
end Go.Pm
namespace Go.Proofs.YtghomjjffllkeaaGreatDoor
open Go.Lw Go.Gl Go.Pm Go.RowKit
theorem best_w (g : FuncId) (cap : List Value) (lt : Wy → Wy → Bool) (V : View) (vl : Value) (x0 : Wy) (l : List Wy) (hs : Sl V wye 3 vl (x0 :: l)) (hok : zL Tryz.prog g)
  (hc : ∀ x y, x ∈ x0 :: l → y ∈ x0 :: l → Fnc Tryz.prog g ([] ++ [wyv x, wyv y] ++ cap) V (fun v _ => v = .bool (lt x y))) :
  Fnc Tryz.prog 91 [vl, .func (.func g) #[] cap.toArray] V fun v _ => v = wyv (qP lt x0 l) := by
 have hlen := hs.jf
 simp only [List.length_cons] at hlen
 refine qh Tryz.func91 rfl Tryz.ntmps91 (Nat.le_of_ble_eq_true rfl) ?_
 intro w0 hw0
 refine At.nrm ?_
 refine At.zl (.n false 0 .done) ?_
 refine AtT.qx z131 ?_
 intro b4
 refine AtT.done ?_
 refine At.nrm ?_
 refine At.zl (.q 0 (.q 1 (.q 2 (.n false 3 (.n true 4 .done))))) ?_
 refine AtT.zh ?_
 have hpos : (0 : Int) < ((x0 :: l).length : Int) := by simp only [List.length_cons]; omega
 refine AtT.qo Tryz.underlying127 qQ ?_
 intro p9 e9 he9 hc9
 obtain rfl : x0 = e9 := by simpa using he9
 first | refine AtT.zD qQ ?_ | refine AtT.zK qQ ?_ | refine AtT.zC qQ ?_
 refine AtT.qx z131 ?_
 intro b5
 refine AtT.zW qQ ?_
 refine AtT.done ?_
 refine At.nrm ?_
 refine At.zl (.q 0 (.q 1 (.q 2 (.q 3 .done)))) ?_
 refine AtT.zh ?_
 have hpos1 : (1 : Int) ≤ ((x0 :: l).length : Int) := by simp only [List.length_cons]; omega
 refine AtT.ktail Tryz.underlying127 qQ ?_
 intro a12 c12 hs12
 first | refine AtT.zZ Tryz.underlying127 ?_ | refine AtT.qa Tryz.underlying127 ?_
 refine AtT.zh ?_
 refine AtT.done ?_
 refine At.nrm ?_
 refine At.lp (ι := Nat) (KS := fun k => [(1, .func (.func g) #[] cap.toArray), (4, .pointer (some ⟨b4, 0, none⟩)), (5, .pointer (some ⟨b5, 0, none⟩)), (12, .slice a12 l.length c12), (13, iv l.length), (14, iv k)])
  (OS := fun k => [.blk b5 (LC (wye (qP lt x0 (l.take k))) 131), .blk b4 (LC [iv 0, iv 0, iv 0] 131)])
  (VS := fun k V' => V' = V ∧ k ≤ l.length) (μ := fun k => l.length - k) 0 ?_ ?_ ?_ ?_
 ·exact ⟨rfl, rfl, rfl, rfl, rfl, rfl, trivial⟩
 ·exact Pt.zM
 ·exact ⟨rfl, Nat.zero_le _⟩
 rintro k V' ks' O' ⟨rfl, hkl⟩ hk hO hl
 subst hk hO
 have hs' : Sl V' wye 3 (.slice a12 l.length c12) l := hs12
 refine At.nrm ?_
 refine At.zl (.q 0 .done) ?_
 refine AtT.zY ?_
 refine AtT.done ?_
 refine At.nrm ?_
 refine At.qc rfl (fun hp => ?_) (fun hp => ?_)
 rotate_left
 ·obtain rfl : k = l.length := by omega
  rw [List.take_length]
  refine At.nrm ?_
  refine At.zl (.q 0 (.n true 1 .done)) ?_
  first | refine AtT.zD qQ ?_ | refine AtT.zK qQ ?_ | refine AtT.zC qQ ?_
  refine AtT.zW qQ ?_
  refine AtT.done ?_
  refine At.nrm ?_
  exact At.qb rfl (.agg rfl qQ zX.zM rfl) rfl
 obtain ⟨x, hx⟩ : ∃ x, l[k]? = some x := ⟨_, List.getElem?_eq_getElem (by omega)⟩
 have hmem : qP lt x0 (l.take k) ∈ x0 :: l := bestOf_mem lt x0 l k
 have hnx := bestOf_take lt (out := x0) hx
 refine At.nrmB ?_
 refine At.jo (ι := Unit) (fun _ => [(1, .func (.func g) #[] cap.toArray), (4, .pointer (some ⟨b4, 0, none⟩)), (5, .pointer (some ⟨b5, 0, none⟩)), (12, .slice a12 l.length c12), (13, iv l.length), (14, iv k)]) (fun _ => [.blk b5 (LC (wye (qP lt x0 (l.take (k + 1)))) 131), .blk b4 (LC [iv 0, iv 0, iv 0] 131)]) (fun _ V'' => V'' = V') ?_ ?_
 ·refine At.nrm ?_
  refine At.zl (.q 0 (.q 1 (.n false 2 (.n true 3 .done)))) ?_
  refine AtT.qo Tryz.underlying127 qQ ?_
  intro p16 e16 he16 hc16
  obtain rfl : x = e16 := by have : l[k]? = some e16 := (by simpa using he16); rw [hx] at this; simpa using this
  first | refine AtT.zD qQ ?_ | refine AtT.zK qQ ?_ | refine AtT.zC qQ ?_
  refine AtT.qx z131 ?_
  intro b7
  refine AtT.zW qQ ?_
  refine AtT.done ?_
  refine At.nrm ?_
  refine At.zl (.q 0 (.q 1 (.q 2 (.n false 3 .done)))) ?_
  refine AtT.zh ?_
  first | refine AtT.zD qQ ?_ | refine AtT.zK qQ ?_ | refine AtT.zC qQ ?_
  first | refine AtT.zD qQ ?_ | refine AtT.zK qQ ?_ | refine AtT.zC qQ ?_
  refine AtT.kcallV rfl rfl rfl hok (hc x (qP lt x0 (l.take k)) (List.mem_cons_of_mem _ (List.mem_of_getElem? hx)) hmem) ?_
  rintro _ rfl
  refine AtT.done ?_
  refine At.nrm ?_
  refine At.cond rfl (fun hb => ?_) (fun hb => ?_)
  ·rw [if_pos hb] at hnx
   refine At.nrm ?_
   refine At.zl (.q 0 (.n true 1 .done)) ?_
   first | refine AtT.zD qQ ?_ | refine AtT.zK qQ ?_ | refine AtT.zC qQ ?_
   refine AtT.zW qQ ?_
   refine AtT.done ?_
   refine At.nrm ?_
   refine At.qC () rfl ⟨rfl, rfl, rfl, rfl, rfl, rfl, trivial⟩ ?_
   rw [hnx]
   ·exact Pt.zM
  ·rw [if_neg (by rw [hb]; simp)] at hnx
   refine At.nrm ?_
   refine At.qC () rfl ⟨rfl, rfl, rfl, rfl, rfl, rfl, trivial⟩ ?_
   rw [hnx]
   ·exact Pt.zM
 rintro _ V3 ks' O' rfl hk hO hl3
 subst hk hO
 refine At.nrm ?_
 refine At.zl (.q 0 (.q 1 .done)) ?_
 first | refine AtT.qj ?_ | refine AtT.zU ?_
 refine AtT.zh ?_
 refine AtT.done ?_
 refine At.nrm ?_
 refine At.round (k + 1) ?_ ?_ ?_ ?_
 ·show l.length - (k + 1) < l.length - k; omega
 ·exact ⟨rfl, by omega⟩
 ·exact ⟨rfl, rfl, rfl, rfl, rfl, ivs (by omega), trivial⟩
 ·exact Pt.zM
theorem best_p (g : FuncId) (cap : List Value) (lt : Pc → Pc → Bool) (V : View) (vl : Value) (x0 : Pc) (l : List Pc) (hs : Sl V pce 4 vl (x0 :: l)) (hok : zL Tryz.prog g)
  (hc : ∀ x y, x ∈ x0 :: l → y ∈ x0 :: l → Fnc Tryz.prog g ([] ++ [pcv x, pcv y] ++ cap) V (fun v _ => v = .bool (lt x y))) :
  Fnc Tryz.prog 75 [vl, .func (.func g) #[] cap.toArray] V fun v _ => v = pcv (qP lt x0 l) := by
 have hlen := hs.jf
 simp only [List.length_cons] at hlen
 refine qh Tryz.func75 rfl Tryz.ntmps75 (Nat.le_of_ble_eq_true rfl) ?_
 intro w0 hw0
 refine At.nrm ?_
 refine At.zl (.n false 0 .done) ?_
 refine AtT.qx z26 ?_
 intro b4
 refine AtT.done ?_
 refine At.nrm ?_
 refine At.zl (.q 0 (.q 1 (.q 2 (.n false 3 (.n true 4 .done))))) ?_
 refine AtT.zh ?_
 have hpos : (0 : Int) < ((x0 :: l).length : Int) := by simp only [List.length_cons]; omega
 refine AtT.qo Tryz.underlying27 zS ?_
 intro p9 e9 he9 hc9
 obtain rfl : x0 = e9 := by simpa using he9
 first | refine AtT.zD zS ?_ | refine AtT.zK zS ?_ | refine AtT.zC zS ?_
 refine AtT.qx z26 ?_
 intro b5
 refine AtT.zW zS ?_
 refine AtT.done ?_
 refine At.nrm ?_
 refine At.zl (.q 0 (.q 1 (.q 2 (.q 3 .done)))) ?_
 refine AtT.zh ?_
 have hpos1 : (1 : Int) ≤ ((x0 :: l).length : Int) := by simp only [List.length_cons]; omega
 refine AtT.ktail Tryz.underlying27 zS ?_
 intro a12 c12 hs12
 first | refine AtT.zZ Tryz.underlying27 ?_ | refine AtT.qa Tryz.underlying27 ?_
 refine AtT.zh ?_
 refine AtT.done ?_
 refine At.nrm ?_
 refine At.lp (ι := Nat) (KS := fun k => [(1, .func (.func g) #[] cap.toArray), (4, .pointer (some ⟨b4, 0, none⟩)), (5, .pointer (some ⟨b5, 0, none⟩)), (12, .slice a12 l.length c12), (13, iv l.length), (14, iv k)])
  (OS := fun k => [.blk b5 (LC (pce (qP lt x0 (l.take k))) 26), .blk b4 (LC [iv 0, iv 0, iv 0, iv 0] 26)])
  (VS := fun k V' => V' = V ∧ k ≤ l.length) (μ := fun k => l.length - k) 0 ?_ ?_ ?_ ?_
 ·exact ⟨rfl, rfl, rfl, rfl, rfl, rfl, trivial⟩
 ·exact Pt.zM
 ·exact ⟨rfl, Nat.zero_le _⟩
 rintro k V' ks' O' ⟨rfl, hkl⟩ hk hO hl
 subst hk hO
 have hs' : Sl V' pce 4 (.slice a12 l.length c12) l := hs12
 refine At.nrm ?_
 refine At.zl (.q 0 .done) ?_
 refine AtT.zY ?_
 refine AtT.done ?_
 refine At.nrm ?_
 refine At.qc rfl (fun hp => ?_) (fun hp => ?_)
 rotate_left
 ·obtain rfl : k = l.length := by omega
  rw [List.take_length]
  refine At.nrm ?_
  refine At.zl (.q 0 (.n true 1 .done)) ?_
  first | refine AtT.zD zS ?_ | refine AtT.zK zS ?_ | refine AtT.zC zS ?_
  refine AtT.zW zS ?_
  refine AtT.done ?_
  refine At.nrm ?_
  exact At.qb rfl (.agg rfl zS zX.zM rfl) rfl
 obtain ⟨x, hx⟩ : ∃ x, l[k]? = some x := ⟨_, List.getElem?_eq_getElem (by omega)⟩
 have hmem : qP lt x0 (l.take k) ∈ x0 :: l := bestOf_mem lt x0 l k
 have hnx := bestOf_take lt (out := x0) hx
 refine At.nrmB ?_
 refine At.jo (ι := Unit) (fun _ => [(1, .func (.func g) #[] cap.toArray), (4, .pointer (some ⟨b4, 0, none⟩)), (5, .pointer (some ⟨b5, 0, none⟩)), (12, .slice a12 l.length c12), (13, iv l.length), (14, iv k)]) (fun _ => [.blk b5 (LC (pce (qP lt x0 (l.take (k + 1)))) 26), .blk b4 (LC [iv 0, iv 0, iv 0, iv 0] 26)]) (fun _ V'' => V'' = V') ?_ ?_
 ·refine At.nrm ?_
  refine At.zl (.q 0 (.q 1 (.n false 2 (.n true 3 .done)))) ?_
  refine AtT.qo Tryz.underlying27 zS ?_
  intro p16 e16 he16 hc16
  obtain rfl : x = e16 := by have : l[k]? = some e16 := (by simpa using he16); rw [hx] at this; simpa using this
  first | refine AtT.zD zS ?_ | refine AtT.zK zS ?_ | refine AtT.zC zS ?_
  refine AtT.qx z26 ?_
  intro b7
  refine AtT.zW zS ?_
  refine AtT.done ?_
  refine At.nrm ?_
  refine At.zl (.q 0 (.q 1 (.q 2 (.n false 3 .done)))) ?_
  refine AtT.zh ?_
  first | refine AtT.zD zS ?_ | refine AtT.zK zS ?_ | refine AtT.zC zS ?_
  first | refine AtT.zD zS ?_ | refine AtT.zK zS ?_ | refine AtT.zC zS ?_
  refine AtT.kcallV rfl rfl rfl hok (hc x (qP lt x0 (l.take k)) (List.mem_cons_of_mem _ (List.mem_of_getElem? hx)) hmem) ?_
  rintro _ rfl
  refine AtT.done ?_
  refine At.nrm ?_
  refine At.cond rfl (fun hb => ?_) (fun hb => ?_)
  ·rw [if_pos hb] at hnx
   refine At.nrm ?_
   refine At.zl (.q 0 (.n true 1 .done)) ?_
   first | refine AtT.zD zS ?_ | refine AtT.zK zS ?_ | refine AtT.zC zS ?_
   refine AtT.zW zS ?_
   refine AtT.done ?_
   refine At.nrm ?_
   refine At.qC () rfl ⟨rfl, rfl, rfl, rfl, rfl, rfl, trivial⟩ ?_
   rw [hnx]
   ·exact Pt.zM
  ·rw [if_neg (by rw [hb]; simp)] at hnx
   refine At.nrm ?_
   refine At.qC () rfl ⟨rfl, rfl, rfl, rfl, rfl, rfl, trivial⟩ ?_
   rw [hnx]
   ·exact Pt.zM
 rintro _ V3 ks' O' rfl hk hO hl3
 subst hk hO
 refine At.nrm ?_
 refine At.zl (.q 0 (.q 1 .done)) ?_
 first | refine AtT.qj ?_ | refine AtT.zU ?_
 refine AtT.zh ?_
 refine AtT.done ?_
 refine At.nrm ?_
 refine At.round (k + 1) ?_ ?_ ?_ ?_
 ·show l.length - (k + 1) < l.length - k; omega
 ·exact ⟨rfl, by omega⟩
 ·exact ⟨rfl, rfl, rfl, rfl, rfl, ivs (by omega), trivial⟩
 ·exact Pt.zM
theorem fewer_f (x y : Wy) (V : View) : Fnc Tryz.prog 92 ([] ++ [wyv x, wyv y] ++ []) V fun r _ => r = .bool (fwB x y) := by
 refine qh Tryz.func92 rfl Tryz.ntmps92 (Nat.le_of_ble_eq_true rfl) ?_
 intro w0 hw0
 refine At.nrm ?_
 refine At.zl (.n false 0 (.n false 1 (.q 2 .done))) ?_
 refine AtT.qZ ?_
 intro b2
 refine AtT.qZ ?_
 intro b3
 refine AtT.zg ?_
 refine AtT.done ?_
 refine At.nrm ?_
 by_cases k1 : x.m < y.m
 ·refine At.zl (.q 0 (.q 1 (.q 2 (.q 3 (.q 4 (.q 5 (.q 6 (.q 7 (.q 8 (.q 9 (.q 10 (.q 11 (.q 12 (.q 13 (.q 14 (.q 15 (.q 16 (.q 17 (.q 18 (.q 19 .done)))))))))))))))))))) ?_
  first | refine AtT.zi qd ?_ | with_reducible refine AtT.zk qd ?_ | refine AtT.zn qd ?_
  first | refine AtT.zm tk3 ?_ | refine AtT.zo tk3 ?_
  first | refine AtT.zi qd ?_ | with_reducible refine AtT.zk qd ?_ | refine AtT.zn qd ?_
  first | refine AtT.zm tk3 ?_ | refine AtT.zo tk3 ?_
  refine AtT.zY ?_
  refine AtT.qJ (d := 9) rfl (k1) ?_
  refine AtT.zh ?_
  all_goals (first | refine AtT.kL 10 ?_ | refine AtT.zB (d := 10) rfl (fun hg10 => ?_) (fun hg10 => ?_) | refine AtT.zA (d := 10) rfl (fun hg10 => ?_) (fun hg10 => ?_))
  all_goals first|refine AtT.zf ?_|refine AtT.ze ?_|(first | refine AtT.zi qd ?_ | with_reducible refine AtT.zk qd ?_ | refine AtT.zn qd ?_)
  all_goals first|refine AtT.zf ?_|refine AtT.ze ?_|(first | refine AtT.zm tk3 ?_ | refine AtT.zo tk3 ?_)
  all_goals first|refine AtT.zf ?_|refine AtT.ze ?_|(first | refine AtT.zi qd ?_ | with_reducible refine AtT.zk qd ?_ | refine AtT.zn qd ?_)
  all_goals first|refine AtT.zf ?_|refine AtT.ze ?_|(first | refine AtT.zm tk3 ?_ | refine AtT.zo tk3 ?_)
  all_goals first|refine AtT.zf ?_|refine AtT.ze ?_|(refine AtT.keqI ?_)
  all_goals first|refine AtT.zf ?_|refine AtT.ze ?_|(refine AtT.zh ?_)
  all_goals (first | refine AtT.kL 16 ?_ | refine AtT.zB (d := 16) rfl (fun hg16 => ?_) (fun hg16 => ?_) | refine AtT.zA (d := 16) rfl (fun hg16 => ?_) (fun hg16 => ?_))
  all_goals first|refine AtT.zf ?_|refine AtT.ze ?_|(first | refine AtT.zi qR ?_ | with_reducible refine AtT.zk qR ?_ | refine AtT.zn qR ?_)
  all_goals first|refine AtT.zf ?_|refine AtT.ze ?_|(first | refine AtT.zm tk3 ?_ | refine AtT.zo tk3 ?_)
  all_goals first|refine AtT.zf ?_|refine AtT.ze ?_|(first | refine AtT.zi qR ?_ | with_reducible refine AtT.zk qR ?_ | refine AtT.zn qR ?_)
  all_goals first|refine AtT.zf ?_|refine AtT.ze ?_|(first | refine AtT.zm tk3 ?_ | refine AtT.zo tk3 ?_)
  all_goals first|refine AtT.zf ?_|refine AtT.ze ?_|(refine AtT.zY ?_)
  all_goals first|refine AtT.zf ?_|refine AtT.ze ?_|(refine AtT.zz ?_)
  all_goals (refine AtT.zz ?_)
  all_goals (refine AtT.zg ?_)
  all_goals refine AtT.done ?_
  all_goals (refine At.nrm ?_)
  exact At.qb rfl (.tmp rfl) (by unfold fwB; rw [decide_eq_true (.inl k1)]; rfl)
 by_cases k2 : x.m = y.m
 ·have e : fwB x y = decide (x.c < y.c) := by unfold fwB; simp [k2]
  rw [e]
  refine At.zl (.q 0 (.q 1 (.q 2 (.q 3 (.q 4 (.q 5 (.q 6 (.q 7 (.q 8 (.q 9 (.q 10 (.q 11 (.q 12 (.q 13 (.q 14 (.q 15 (.q 16 (.q 17 (.q 18 (.q 19 .done)))))))))))))))))))) ?_
  first | refine AtT.zi qd ?_ | with_reducible refine AtT.zk qd ?_ | refine AtT.zn qd ?_
  first | refine AtT.zm tk3 ?_ | refine AtT.zo tk3 ?_
  first | refine AtT.zi qd ?_ | with_reducible refine AtT.zk qd ?_ | refine AtT.zn qd ?_
  first | refine AtT.zm tk3 ?_ | refine AtT.zo tk3 ?_
  refine AtT.zY ?_
  refine AtT.qm (d := 9) rfl (k1) ?_
  refine AtT.zh ?_
  all_goals (first | refine AtT.kL 10 ?_ | refine AtT.zB (d := 10) rfl (fun hg10 => ?_) (fun hg10 => ?_) | refine AtT.zA (d := 10) rfl (fun hg10 => ?_) (fun hg10 => ?_))
  all_goals first|refine AtT.zf ?_|refine AtT.ze ?_|(first | refine AtT.zi qd ?_ | with_reducible refine AtT.zk qd ?_ | refine AtT.zn qd ?_)
  all_goals first|refine AtT.zf ?_|refine AtT.ze ?_|(first | refine AtT.zm tk3 ?_ | refine AtT.zo tk3 ?_)
  all_goals first|refine AtT.zf ?_|refine AtT.ze ?_|(first | refine AtT.zi qd ?_ | with_reducible refine AtT.zk qd ?_ | refine AtT.zn qd ?_)
  all_goals first|refine AtT.zf ?_|refine AtT.ze ?_|(first | refine AtT.zm tk3 ?_ | refine AtT.zo tk3 ?_)
  all_goals first|refine AtT.zf ?_|refine AtT.ze ?_|(refine AtT.keqI ?_)
  all_goals (refine AtT.qJ (d := 15) rfl (k2) ?_)
  all_goals first|refine AtT.zf ?_|refine AtT.ze ?_|(refine AtT.zh ?_)
  all_goals (first | refine AtT.kL 16 ?_ | refine AtT.zB (d := 16) rfl (fun hg16 => ?_) (fun hg16 => ?_) | refine AtT.zA (d := 16) rfl (fun hg16 => ?_) (fun hg16 => ?_))
  all_goals first|refine AtT.zf ?_|refine AtT.ze ?_|(first | refine AtT.zi qR ?_ | with_reducible refine AtT.zk qR ?_ | refine AtT.zn qR ?_)
  all_goals first|refine AtT.zf ?_|refine AtT.ze ?_|(first | refine AtT.zm tk3 ?_ | refine AtT.zo tk3 ?_)
  all_goals first|refine AtT.zf ?_|refine AtT.ze ?_|(first | refine AtT.zi qR ?_ | with_reducible refine AtT.zk qR ?_ | refine AtT.zn qR ?_)
  all_goals first|refine AtT.zf ?_|refine AtT.ze ?_|(first | refine AtT.zm tk3 ?_ | refine AtT.zo tk3 ?_)
  all_goals first|refine AtT.zf ?_|refine AtT.ze ?_|(refine AtT.zY ?_)
  all_goals first|refine AtT.zf ?_|refine AtT.ze ?_|(refine AtT.zz ?_)
  all_goals (refine AtT.zz ?_)
  all_goals (refine AtT.zg ?_)
  all_goals refine AtT.done ?_
  all_goals (refine At.nrm ?_)
  exact At.qb rfl (.tmp rfl) rfl
 ·refine At.zl (.q 0 (.q 1 (.q 2 (.q 3 (.q 4 (.q 5 (.q 6 (.q 7 (.q 8 (.q 9 (.q 10 (.q 11 (.q 12 (.q 13 (.q 14 (.q 15 (.q 16 (.q 17 (.q 18 (.q 19 .done)))))))))))))))))))) ?_
  first | refine AtT.zi qd ?_ | with_reducible refine AtT.zk qd ?_ | refine AtT.zn qd ?_
  first | refine AtT.zm tk3 ?_ | refine AtT.zo tk3 ?_
  first | refine AtT.zi qd ?_ | with_reducible refine AtT.zk qd ?_ | refine AtT.zn qd ?_
  first | refine AtT.zm tk3 ?_ | refine AtT.zo tk3 ?_
  refine AtT.zY ?_
  refine AtT.qm (d := 9) rfl (k1) ?_
  refine AtT.zh ?_
  all_goals (first | refine AtT.kL 10 ?_ | refine AtT.zB (d := 10) rfl (fun hg10 => ?_) (fun hg10 => ?_) | refine AtT.zA (d := 10) rfl (fun hg10 => ?_) (fun hg10 => ?_))
  all_goals first|refine AtT.zf ?_|refine AtT.ze ?_|(first | refine AtT.zi qd ?_ | with_reducible refine AtT.zk qd ?_ | refine AtT.zn qd ?_)
  all_goals first|refine AtT.zf ?_|refine AtT.ze ?_|(first | refine AtT.zm tk3 ?_ | refine AtT.zo tk3 ?_)
  all_goals first|refine AtT.zf ?_|refine AtT.ze ?_|(first | refine AtT.zi qd ?_ | with_reducible refine AtT.zk qd ?_ | refine AtT.zn qd ?_)
  all_goals first|refine AtT.zf ?_|refine AtT.ze ?_|(first | refine AtT.zm tk3 ?_ | refine AtT.zo tk3 ?_)
  all_goals first|refine AtT.zf ?_|refine AtT.ze ?_|(refine AtT.keqI ?_)
  all_goals (refine AtT.qm (d := 15) rfl (k2) ?_)
  all_goals first|refine AtT.zf ?_|refine AtT.ze ?_|(refine AtT.zh ?_)
  all_goals (first | refine AtT.kL 16 ?_ | refine AtT.zB (d := 16) rfl (fun hg16 => ?_) (fun hg16 => ?_) | refine AtT.zA (d := 16) rfl (fun hg16 => ?_) (fun hg16 => ?_))
  all_goals first|refine AtT.zf ?_|refine AtT.ze ?_|(first | refine AtT.zi qR ?_ | with_reducible refine AtT.zk qR ?_ | refine AtT.zn qR ?_)
  all_goals first|refine AtT.zf ?_|refine AtT.ze ?_|(first | refine AtT.zm tk3 ?_ | refine AtT.zo tk3 ?_)
  all_goals first|refine AtT.zf ?_|refine AtT.ze ?_|(first | refine AtT.zi qR ?_ | with_reducible refine AtT.zk qR ?_ | refine AtT.zn qR ?_)
  all_goals first|refine AtT.zf ?_|refine AtT.ze ?_|(first | refine AtT.zm tk3 ?_ | refine AtT.zo tk3 ?_)
  all_goals first|refine AtT.zf ?_|refine AtT.ze ?_|(refine AtT.zY ?_)
  all_goals first|refine AtT.zf ?_|refine AtT.ze ?_|(refine AtT.zz ?_)
  all_goals (refine AtT.zz ?_)
  all_goals (refine AtT.zg ?_)
  all_goals refine AtT.done ?_
  all_goals (refine At.nrm ?_)
  exact At.qb rfl (.tmp rfl) (by unfold fwB; rw [decide_eq_false (by omega)]; rfl)
end Go.Proofs.YtghomjjffllkeaaGreatDoor
set_option linter.unusedVariables false
namespace Go.Lw
theorem flat_part {α : Type} {enc : α → List Value} {s : Nat} (he : ∀ x, (enc x).length = s) : ∀ {l : List α} {i : Nat} {x : α}, l[i]? = some x → ((flat enc l).drop (i * s)).take s = enc x
 | y :: l, 0, x, h => by
  simp at h; subst h
  simp only [Nat.zero_mul, List.drop_zero, flat, List.flatMap_cons]
  rw [← he y, List.take_left]
 | y :: l, i + 1, x, h => by
  have ih := flat_part he (l := l) (i := i) (x := x) (by simpa using h)
  simp only [flat, List.flatMap_cons] at ih ⊢
  have e : (i + 1) * s = s + i * s := by rw [Nat.add_mul, Nat.one_mul, Nat.add_comm]
  rw [e, List.drop_append, he y, List.drop_eq_nil_of_le (by rw [he]; omega), List.nil_append, Nat.add_sub_cancel_left]
  exact ih
end Go.Lw
namespace Go.Pm
open Go.Gl Go.Lw
theorem fw_get {l : List Wy} {j : Nat} {w : Wy} (h : l[j]? = some w) : ((flat wye l).drop (j * 3)).take 3 = wye w := flat_part wye_len h
theorem fw_q {l : List Wy} {j : Nat} {w : Wy} (h : l[j]? = some w) : ((flat wye l).drop (j * 3 + 2)).take 1 = [iv w.q] := by
 have := fw_get h
 rw [← List.drop_drop]
 have e := congrArg (List.drop 2) this
 rw [List.drop_take] at e
 exact e
theorem fw_q1 {l : List Wy} {j : Nat} {w : Wy} (h : l[j]? = some w) : (flat wye l)[j * 3 + 2]? = some (iv w.q) := flat_at wye_len l j w h 2 _ rfl
theorem fw_set {l : List Wy} {j : Nat} (w : Wy) (h : j < l.length) : (flat wye l).take (j * 3) ++ wye w ++ (flat wye l).drop (j * 3 + (wye w).length) = flat wye (l.set j w) := flat_set wye_len l j w h
theorem fw_set2 {l : List Wy} {j : Nat} (w0 w : Wy) (h : j < l.length) : (flat wye (l.set j w0)).take (j * 3) ++ wye w ++ (flat wye (l.set j w0)).drop (j * 3 + (wye w).length) = flat wye (l.set j w) := by
 have := fw_set (l := l.set j w0) (j := j) w (by rw [List.length_set]; exact h)
 rwa [List.set_set] at this
theorem fw_m {l : List Wy} {j : Nat} {w : Wy} (x : Int) (h : l[j]? = some w) : SetAt (flat wye l) (j * 3 + 0) (iv x) (flat wye (l.set j ⟨x, w.c, w.q⟩)) := by
 have hj := (List.getElem?_eq_some_iff.1 h).1
 refine setAt_of (by rw [qV wye_len]; omega) ?_
 exact flat_set1 wye_len l j 0 w ⟨x, w.c, w.q⟩ (iv x) h (by decide) rfl
end Go.Pm
namespace Go.Proofs.YtghomjjffllkeaaGreatDoor
open Go.Lw Go.Gl Go.Pm Go.RowKit
theorem mend_f (s : Sh) (hok : ShOk s) (V : View) (b0 : Nat) (hb : BnV V b0 s) : Fnc Tryz.prog 63 [.pointer (some ⟨b0, 0, none⟩)] V fun r V' => ∃ ps : List Pc, Sl V' pce 4 r ps ∧ MnR (gdS s) (knL s) ps := by
 obtain ⟨a, c, ak, ck, hc0, hc1, hc2, hc3, hs, hsk⟩ := bn_get hb
 have hkn := hok.kn
 have hg := sh_gok hok
 have hon := kn_on hok
 have hfg := kn_fig hok
 have hp0 : 0 < 2 ^ (knL s).length := Nat.two_pow_pos _
 have hp10 : 2 ^ (knL s).length ≤ 1024 := Nat.pow_le_pow_right (n := 2) (by decide) hkn
 have hsn : ∀ k : Nat, 1 ≤ k → k < 2 ^ (knL s).length → sel (knL s) k ≠ [] := fun k h1 h2 => sel_ne (by omega) h2
 have hsb : ∀ k : Nat, ∀ x ∈ sel (knL s) k, 0 ≤ x.r ∧ x.r ≤ 99 ∧ 0 ≤ x.c ∧ x.c ≤ 99 := fun k x hx => kn_bd hok x (sel_in hx)
 refine qh Tryz.func63 rfl Tryz.ntmps63 (Nat.le_of_ble_eq_true rfl) ?_
 intro w0 hw0
 refine At.nrm ?_
 refine At.zl (.q 0 .done) ?_
 refine AtT.zg ?_
 refine AtT.done ?_
 refine At.nrm ?_
 refine At.zl (.q 0 (.n false 1 (.q 2 .done))) ?_
 refine AtT.zh ?_
 refine AtT.qg rfl rfl ok90 (under_f s hok _ b0 hb) ?_
 rintro _ V13 hV13 ⟨mb, rfl, hun⟩
 refine AtT.zg ?_
 refine AtT.done ?_
 refine At.nrm ?_
 have hc2a := hc2.le hV13
 refine At.zl (.q 0 (.q 1 (.q 2 (.q 3 (.q 4 (.q 5 (.n false 6 (.q 7 .done)))))))) ?_
 refine AtT.zh ?_
 refine AtT.knil ?_
 first | refine AtT.zi qp ?_ | with_reducible refine AtT.zk qp ?_ | refine AtT.zn qp ?_
 first | refine AtT.zm tk84 ?_ | refine AtT.zo tk84 ?_
 first | refine AtT.zZ Tryz.underlying84 ?_ | refine AtT.qa Tryz.underlying84 ?_
 refine AtT.shlN rfl trivial rfl rfl rfl (by omega) (by decide) (N := (knL s).length) ?_
 refine AtT.makeSl rfl trivial wye rfl Tryz.underlying127 rw131 rfl rfl (by decide) rfl rfl (by omega) (by omega) (by decide) (za := (⟨0, 0, 0⟩ : Wy)) ?_
 intro b20
 refine AtT.zg ?_
 refine AtT.done ?_
 refine At.nrm ?_
 refine At.zl (.q 0 .done) ?_
 refine AtT.zg ?_
 refine AtT.done ?_
 refine At.nrm ?_
 refine At.lp (ι := Nat × List Wy) (KS := fun g => [(0, .pointer (some ⟨b0, 0, none⟩)), (3, .map (some mb)), (4, .slice (some ⟨b20, 0, none⟩) (2 ^ (knL s).length) (2 ^ (knL s).length)), (5, iv g.1)]) (OS := fun g => [.blk b20 (LC (flat wye g.2) 131)])
  (VS := fun g V' => Le V13 V' ∧ 1 ≤ g.1 ∧ g.1 ≤ 2 ^ (knL s).length ∧ DpW (gdS s) (knL s) g.2 g.1) (μ := fun g => 2 ^ (knL s).length - g.1) (1, List.replicate (2 ^ (knL s).length) ⟨0, 0, 0⟩) ?_ ?_ ?_ ?_
 ·exact ⟨rfl, rfl, rfl, rfl, trivial⟩
 ·exact Pt.zM
 ·exact ⟨Le.refl _, Nat.le_refl _, hp0, dw_start⟩
 rintro ⟨b, L⟩ V' ks' O' ⟨hVV, hb1, hbl, hdp⟩ hk hO hl2
 dsimp only at hb1 hbl hdp hk hO
 subst hk hO
 have hb' := (hb.le hV13).le hVV
 have hc2b := hc2a.le hVV
 have hun' := hun.le hVV
 refine At.nrm ?_
 refine At.zl (.q 0 (.q 1 (.q 2 (.q 3 .done)))) ?_
 refine AtT.zh ?_
 refine AtT.zh ?_
 first | refine AtT.zZ Tryz.underlying127 ?_ | refine AtT.qa Tryz.underlying127 ?_
 refine AtT.zY ?_
 refine AtT.done ?_
 refine At.nrm ?_
 refine At.qc rfl (fun hp => ?_) (fun hp => ?_)
 rotate_left
 ·obtain rfl : b = 2 ^ (knL s).length := by omega
  obtain ⟨n, cs, hB, htr0⟩ := tr_start hkn hdp
  have hlL := hdp.len
  have hm1 : ((2 ^ (knL s).length : Nat) : Int) - 1 = ((2 ^ (knL s).length - 1 : Nat) : Int) := by omega
  refine At.nrm ?_
  refine At.zl (.q 0 .done) ?_
  refine AtT.zg ?_
  refine AtT.done ?_
  refine At.nrm ?_
  refine At.zl (.q 0 (.q 1 (.q 2 (.q 3 .done)))) ?_
  refine AtT.zh ?_
  first | refine AtT.zZ Tryz.underlying127 ?_ | refine AtT.qa Tryz.underlying127 ?_
  first | refine AtT.qD ?_ | refine AtT.qE ?_
  rw [hm1]
  refine AtT.zg ?_
  refine AtT.done ?_
  refine At.nrm ?_
  refine At.newRow 26 4 ?_
  refine At.lp (ι := Nat × List Pc × Option Addr × Nat) (KS := fun g => [(0, .pointer (some ⟨b0, 0, none⟩)), (4, .slice (some ⟨b20, 0, none⟩) (2 ^ (knL s).length) (2 ^ (knL s).length)), (10, .slice g.2.2.1 g.2.1.length g.2.2.2), (11, iv g.1)])
   (OS := fun g => [.blk b20 (LC (flat wye L) 131), .row (.slice g.2.2.1 g.2.1.length g.2.2.2) 26 4 g.2.1.length (flat pce g.2.1)])
   (VS := fun g V'' => Le V' V'' ∧ g.1 < 2 ^ (knL s).length ∧ g.1 + g.2.1.length < 2 ^ (knL s).length ∧ TrW (gdS s) (knL s) L n cs g.1 g.2.1) (μ := fun g => g.1) (2 ^ (knL s).length - 1, [], none, 0) ?_ ?_ ?_ ?_
  ·exact ⟨rfl, rfl, rfl, rfl, trivial⟩
  ·exact Pt.zM
  ·exact ⟨Le.refl _, by dsimp only; omega, by dsimp only; simp only [List.length_nil]; omega, htr0⟩
  rintro ⟨r, ps, ap, cp⟩ V2 ks' O' ⟨hV2, hrl, hrp, htr⟩ hk hO hl3
  dsimp only at hrl hrp htr hk hO
  subst hk hO
  have hb2 := hb'.le hV2
  refine At.nrm ?_
  refine At.zl (.q 0 (.q 1 .done)) ?_
  refine AtT.zh ?_
  refine AtT.qw ?_
  refine AtT.done ?_
  refine At.nrm ?_
  refine At.qc rfl (fun hp3 => ?_) (fun hp3 => ?_)
  rotate_left
  ·obtain rfl : r = 0 := by omega
   refine At.nrm ?_
   refine At.zl (.q 0 (.q 1 .done)) ?_
   refine AtT.zh ?_
   refine AtT.zg ?_
   refine AtT.done ?_
   refine At.nrm ?_
   refine At.giveSl (l := ps) pce_len rfl rfl zX.zM (fun V4 hV4 hs4 => ?_)
   exact At.qb rfl (.tmp rfl) ⟨ps, hs4, tr_done hdp hB htr⟩
  obtain ⟨w, hw1, hw2, hw3, hw4, htr2⟩ := tr_step hkn hdp htr (by omega) hrl
  have hu := fw_q hw1
  have hu1 := fw_q1 hw1
  refine At.nrm ?_
  refine At.zl (.q 0 (.q 1 (.q 2 (.q 3 (.q 4 (.q 5 (.q 6 (.n false 7 (.n false 8 (.n true 9 (.q 10 .done))))))))))) ?_
  refine AtT.zh ?_
  refine AtT.zh ?_
  refine AtT.zh ?_
  refine AtT.zh ?_
  refine AtT.idxZ rfl trivial Tryz.underlying127 qQ rfl rfl (by omega) (by decide) ?_
  first | refine AtT.zi fo131_2 ?_ | with_reducible refine AtT.zk fo131_2 ?_ | refine AtT.zn fo131_2 ?_
  refine AtT.loadOP rfl trivial rfl tk129 zX.zM hu rfl (by decide) ?_
  refine AtT.zq rfl rfl ok93 (least_f s hok hkn w.q (by omega) (hsn w.q (by omega) (by omega)) _ b0 hb2) ?_
  rintro _ rfl
  refine AtT.zu (bs27_1_0 _ _ _ _) ?_
  intro q108 V108 hV108 hq108
  have g108 : Le V V108 := by first | exact hV108 | exact Le.trans (by assumption) hV108
  first | refine AtT.kappend Tryz.underlying27 rw26 ?_
  intro a109 c109
  refine AtT.zg ?_
  refine AtT.done ?_
  refine At.nrm ?_
  refine At.nrm ?_
  refine At.zl (.q 0 (.q 1 (.q 2 (.q 3 (.q 4 (.q 5 (.q 6 (.q 7 (.q 8 .done))))))))) ?_
  refine AtT.zh ?_
  refine AtT.zh ?_
  refine AtT.zh ?_
  refine AtT.idxZ rfl trivial Tryz.underlying127 qQ rfl rfl (by omega) (by decide) ?_
  first | refine AtT.zi fo131_2 ?_ | with_reducible refine AtT.zk fo131_2 ?_ | refine AtT.zn fo131_2 ?_
  first | refine AtT.zi fo129_0 ?_ | with_reducible refine AtT.zk fo129_0 ?_ | refine AtT.zn fo129_0 ?_
  refine AtT.loadO rfl trivial rfl tk3 zX.zM hu1 (by decide) ?_
  refine AtT.clrN rfl trivial rfl rfl rfl rfl (by omega) (by omega) (by decide) (A := r) (B := w.q) ?_
  refine AtT.zg ?_
  refine AtT.done ?_
  refine At.nrm ?_
  have hpl : (ps ++ [bbx (sel (knL s) w.q)]).length = ps.length + 1 := by rw [List.length_append]; rfl
  refine At.round (qI r w.q, ps ++ [bbx (sel (knL s) w.q)], a109, c109) ?_ ?_ ?_ ?_
  ·exact hw4
  ·exact ⟨hV2.trans (by first | assumption | exact Le.trans (by assumption) (by assumption)), by dsimp only; omega, by dsimp only; omega, htr2⟩
  ·dsimp only; rw [hpl]; exact ⟨rfl, rfl, rfl, rfl, trivial⟩
  dsimp only
  rw [hpl, jg]
  ·exact Pt.zM
 obtain ⟨i, hi1, hi2⟩ := low_at (b := b) (by omega)
 have hW : ∀ r, r < b → jr (gdS s) (sel (knL s) r) (wW L r).1 (wW L r).2 := fun r hr => (dw_w hdp hr (by omega)).2
 have hlL := hdp.len
 have hL0 := hdp.rest b (Nat.le_refl _) (by omega)
 have hst0 := fw_m ((knL s).length + 1) hL0
 refine At.nrm ?_
 refine At.zl (.q 0 (.q 1 (.q 2 (.q 3 (.q 4 (.q 5 (.q 6 (.q 7 (.q 8 (.q 9 (.n true 10 .done))))))))))) ?_
 refine AtT.zh ?_
 refine AtT.zh ?_
 refine AtT.zh ?_
 refine AtT.knil ?_
 first | refine AtT.zi qp ?_ | with_reducible refine AtT.zk qp ?_ | refine AtT.zn qp ?_
 first | refine AtT.zm tk84 ?_ | refine AtT.zo tk84 ?_
 first | refine AtT.zZ Tryz.underlying84 ?_ | refine AtT.qa Tryz.underlying84 ?_
 first | refine AtT.qj ?_ | refine AtT.zU ?_
 refine AtT.idxZ rfl trivial Tryz.underlying127 qQ rfl rfl (by omega) (by decide) ?_
 first | refine AtT.zi qd ?_ | with_reducible refine AtT.zk qd ?_ | refine AtT.zn qd ?_
 refine AtT.jd tk3 ?_ (hs := hst0)
 refine AtT.done ?_
 refine At.nrm ?_
 refine At.nrm ?_
 refine At.zl (.q 0 (.q 1 .done)) ?_
 refine AtT.zh ?_
 refine AtT.zg ?_
 refine AtT.done ?_
 refine At.nrm ?_
 refine At.lp (ι := Nat × Wy) (KS := fun g => [(0, .pointer (some ⟨b0, 0, none⟩)), (3, .map (some mb)), (4, .slice (some ⟨b20, 0, none⟩) (2 ^ (knL s).length) (2 ^ (knL s).length)), (5, iv b), (6, iv g.1)])
  (OS := fun g => [.blk b20 (LC (flat wye (L.set b g.2)) 131)])
  (VS := fun g V'' => Le V' V'' ∧ SubB g.1 b ∧ InI (gdS s) (knL s) b i (wW L) ((knL s).length + 1) g.1 g.2.m g.2.c g.2.q) (μ := fun g => g.1) (b, ⟨(knL s).length + 1, 0, 0⟩) ?_ ?_ ?_ ?_
 ·exact ⟨rfl, rfl, rfl, rfl, rfl, trivial⟩
 ·exact Pt.zM
 ·exact ⟨Le.refl _, fun j hj => hj, in_start⟩
 rintro ⟨part, w0⟩ V2 ks' O' ⟨hV2, hsub, hin⟩ hk hO hl4
 dsimp only at hsub hin hk hO
 subst hk hO
 have hb2 := hb'.le hV2
 obtain ⟨M, mc, hM, hMv, hMh⟩ := (hun'.le hV2).ex
 have hple := sub_le hsub
 refine At.nrm ?_
 refine At.zl (.q 0 (.q 1 .done)) ?_
 refine AtT.zh ?_
 refine AtT.qw ?_
 refine AtT.done ?_
 refine At.nrm ?_
 refine At.qc rfl (fun hp2 => ?_) (fun hp2 => ?_)
 rotate_left
 ·obtain rfl : part = 0 := by omega
  obtain ⟨hC, n, hn, hB, e1, e2⟩ := in_end hg hon hfg hkn (by omega) hi1 hW (by omega) hin
  have hds := dw_step hdp (by omega) (by omega) hB hC e1 e2
  rw [show (⟨(n : Int), w0.c, w0.q⟩ : Wy) = w0 by rw [← hn]] at hds
  refine At.nrm ?_
  refine At.zl (.q 0 (.q 1 (.q 2 .done))) ?_
  refine AtT.zh ?_
  first | refine AtT.qj ?_ | refine AtT.zU ?_
  refine AtT.zg ?_
  refine AtT.done ?_
  refine At.nrm ?_
  refine At.round (b + 1, L.set b w0) ?_ ?_ ?_ ?_
  ·show 2 ^ (knL s).length - (b + 1) < 2 ^ (knL s).length - b; omega
  ·exact ⟨hVV.trans hV2, by dsimp only; omega, by dsimp only; omega, hds⟩
  ·exact ⟨rfl, rfl, rfl, ivs (by dsimp only; omega), trivial⟩
  ·exact Pt.zM
 have hmh := hMh part (by omega) (by omega)
 refine At.nrmB ?_
 refine At.jo (ι := Wy) (fun _ => [(0, .pointer (some ⟨b0, 0, none⟩)), (3, .map (some mb)), (4, .slice (some ⟨b20, 0, none⟩) (2 ^ (knL s).length) (2 ^ (knL s).length)), (5, iv b), (6, iv part)])
  (fun g => [.blk b20 (LC (flat wye (L.set b g)) 131)])
  (fun g V'' => Le V2 V'' ∧ InI (gdS s) (knL s) b i (wW L) ((knL s).length + 1) ((part - 1) &&& b) g.m g.c g.q) ?_ ?_
 ·have hlb := low_and (p := part) (show b < 1024 by omega) hi1 hi2
  have hlow := lowB_le b (by omega)
  refine At.nrm ?_
  refine At.zl (.q 0 (.q 1 (.q 2 (.q 3 (.q 4 (.q 5 (.q 6 (.q 7 (.q 8 .done))))))))) ?_
  refine AtT.zh ?_
  refine AtT.zh ?_
  refine AtT.ja (bd129_0 _) ?_
  refine AtT.lookup2V rfl trivial key129 (part : Int) (0 : Int) Tryz.underlying125 z3 rfl rfl rfl hM (by decide) ?_
  refine AtT.zh ?_
  refine AtT.zN ?_
  refine AtT.zN ?_
  refine AtT.zg ?_
  refine AtT.zg ?_
  refine AtT.done ?_
  refine At.nrm ?_
  by_cases hpe : peE (gdS s) (bbx (sel (knL s) part)) = 0
  rotate_left
  ·have hms : mhas (part : Int) M = false := by rw [hmh]; exact decide_eq_false hpe
   refine At.nrm ?_
   refine At.zl (.q 0 (.q 1 (.q 2 (.q 3 (.q 4 (.q 5 (.q 6 (.q 7 (.q 8 (.q 9 (.q 10 .done))))))))))) ?_
   refine AtT.zh ?_
   refine AtT.qW ?_
   refine AtT.setB (d := 52) rfl ((show (!mhas (part : Int) M) = true by rw [hms]; rfl)) ?_
   refine AtT.zh ?_
   all_goals (first | refine AtT.kL 53 ?_ | refine AtT.zB (d := 53) rfl (fun hg53 => ?_) (fun hg53 => ?_) | refine AtT.zA (d := 53) rfl (fun hg53 => ?_) (fun hg53 => ?_))
   all_goals first|refine AtT.zf ?_|refine AtT.ze ?_|(refine AtT.zh ?_)
   all_goals first|refine AtT.zf ?_|refine AtT.ze ?_|(refine AtT.zh ?_)
   all_goals first|refine AtT.zf ?_|refine AtT.ze ?_|(refine AtT.zh ?_)
   all_goals first|refine AtT.zf ?_|refine AtT.ze ?_|(first | refine AtT.kneg ?_ | refine AtT.knegW ?_)
   all_goals first|refine AtT.zf ?_|refine AtT.ze ?_|(fail)
   all_goals first|refine AtT.zf ?_|refine AtT.ze ?_|(fail)
   all_goals first|refine AtT.zf ?_|refine AtT.ze ?_|(refine AtT.keqI ?_)
   all_goals (refine AtT.zz ?_)
   all_goals refine AtT.done ?_
   all_goals (refine At.nrm ?_)
   refine At.qA rfl rfl ?_
   refine At.nrm ?_
   exact At.qC w0 ⟨Le.refl _, in_skip hin hsub fun h => hpe (peE_iff.2 h.lies)⟩ ⟨rfl, rfl, rfl, rfl, rfl, trivial⟩ Pt.zM
  have hms : mhas (part : Int) M = true := by rw [hmh]; exact decide_eq_true hpe
  have hpl := peE_iff.1 hpe
  cases hbit : part.testBit i with
  | false =>
   have hz := hlb.2 hbit
   refine At.nrm ?_
   refine At.zl (.q 0 (.q 1 (.q 2 (.q 3 (.q 4 (.q 5 (.q 6 (.q 7 (.q 8 (.q 9 (.q 10 .done))))))))))) ?_
   refine AtT.zh ?_
   refine AtT.qW ?_
   refine AtT.setB (d := 52) rfl ((show (!mhas (part : Int) M) = false by rw [hms]; rfl)) ?_
   refine AtT.zh ?_
   all_goals (first | refine AtT.kL 53 ?_ | refine AtT.zB (d := 53) rfl (fun hg53 => ?_) (fun hg53 => ?_) | refine AtT.zA (d := 53) rfl (fun hg53 => ?_) (fun hg53 => ?_))
   all_goals first|refine AtT.zf ?_|refine AtT.ze ?_|(refine AtT.zh ?_)
   all_goals first|refine AtT.zf ?_|refine AtT.ze ?_|(refine AtT.zh ?_)
   all_goals first|refine AtT.zf ?_|refine AtT.ze ?_|(refine AtT.zh ?_)
   all_goals first|refine AtT.zf ?_|refine AtT.ze ?_|(first | refine AtT.kneg ?_ | refine AtT.knegW ?_)
   all_goals first|refine AtT.zf ?_|refine AtT.ze ?_|(refine AtT.lowN rfl ⟨_, _, rfl, rfl, rfl⟩ rfl rfl rfl rfl (by omega) (by decide) (A := b) ?_)
   all_goals first|refine AtT.zf ?_|refine AtT.ze ?_|(refine AtT.andN rfl ⟨_, _, rfl, rfl, rfl⟩ rfl rfl rfl rfl (by omega) (by omega) (by decide) (A := part) (B := lowB b) ?_)
   all_goals first|refine AtT.zf ?_|refine AtT.ze ?_|(refine AtT.keqI ?_)
   all_goals (refine AtT.qJ (d := 60) rfl ((show ((part &&& lowB b : Nat) : Int) = 0 by rw [hz]; rfl)) ?_)
   all_goals (refine AtT.zz ?_)
   all_goals refine AtT.done ?_
   all_goals (refine At.nrm ?_)
   refine At.qA rfl rfl ?_
   refine At.nrm ?_
   exact At.qC w0 ⟨Le.refl _, in_skip hin hsub fun h => by have := h.low; rw [hbit] at this; cases this⟩ ⟨rfl, rfl, rfl, rfl, rfl, trivial⟩ Pt.zM
  | true =>
   have hz : ¬ ((part &&& lowB b : Nat) : Int) = 0 := fun h => by
    have := hlb.1 (by omega); rw [hbit] at this; cases this
   have hcand : Cand (gdS s) (knL s) b i part := ⟨hsub, hbit, hpl⟩
   have hrl := rest_lt (b := b) (p := part) (by omega) (by omega) hsub (by omega)
   obtain ⟨⟨qr, w1⟩, w3⟩ := dw_w hdp (r := qI b part) hrl (by omega)
   have hbd := best_bd hg (fun k hk => hon k (sel_in hk)) (fun k hk => hfg k (sel_in hk)) w3
   have hsl := sel_len (K := knL s) (qI b part)
   have hpm := hpl.most
   have hpp := ar_pos hpl
   have hgm := hg.most
   have hmg : mget (part : Int) (0 : Int) M = arP (bbx (sel (knL s) part)) := by
    rw [mget_fn (f := arK (knL s)) hMv ((mhas_iff _ _).1 hms)]
    unfold arK; rw [Int.toNat_natCast]
   obtain ⟨wr, hwr⟩ : ∃ wr : Wy, wr = ⟨((wW L (qI b part)).1 : Int), (wW L (qI b part)).2, qr⟩ := ⟨_, rfl⟩
   have hwm : wr.m = ((wW L (qI b part)).1 : Int) := by rw [hwr]
   have hwc : wr.c = (wW L (qI b part)).2 := by rw [hwr]
   have hLr : (L.set b w0)[qI b part]? = some wr := by rw [List.getElem?_set, if_neg (by omega), hwr]; exact w1
   have hLb : (L.set b w0)[b]? = some w0 := by rw [List.getElem?_set, if_pos rfl, if_pos (by omega)]
   have hu1 := fw_get hLr
   have hu2 := fw_get hLb
   obtain ⟨wn, hwn⟩ : ∃ wn : Wy, wn = ⟨((wW L (qI b part)).1 : Int) + 1, (wW L (qI b part)).2 + arP (bbx (sel (knL s) part)), part⟩ := ⟨_, rfl⟩
   have hfl : (flat wye (L.set b w0)).length = 2 ^ (knL s).length * 3 := by rw [qV wye_len, List.length_set, hlL]
   have hfit2 : Fit (wr.c + arP (bbx (sel (knL s) part))) := Fit.of (by omega) (by omega)
   refine At.nrm ?_
   refine At.zl (.q 0 (.q 1 (.q 2 (.q 3 (.q 4 (.q 5 (.q 6 (.q 7 (.q 8 (.q 9 (.q 10 .done))))))))))) ?_
   refine AtT.zh ?_
   refine AtT.qW ?_
   refine AtT.setB (d := 52) rfl ((show (!mhas (part : Int) M) = false by rw [hms]; rfl)) ?_
   refine AtT.zh ?_
   all_goals (first | refine AtT.kL 53 ?_ | refine AtT.zB (d := 53) rfl (fun hg53 => ?_) (fun hg53 => ?_) | refine AtT.zA (d := 53) rfl (fun hg53 => ?_) (fun hg53 => ?_))
   all_goals first|refine AtT.zf ?_|refine AtT.ze ?_|(refine AtT.zh ?_)
   all_goals first|refine AtT.zf ?_|refine AtT.ze ?_|(refine AtT.zh ?_)
   all_goals first|refine AtT.zf ?_|refine AtT.ze ?_|(refine AtT.zh ?_)
   all_goals first|refine AtT.zf ?_|refine AtT.ze ?_|(first | refine AtT.kneg ?_ | refine AtT.knegW ?_)
   all_goals first|refine AtT.zf ?_|refine AtT.ze ?_|(refine AtT.lowN rfl ⟨_, _, rfl, rfl, rfl⟩ rfl rfl rfl rfl (by omega) (by decide) (A := b) ?_)
   all_goals first|refine AtT.zf ?_|refine AtT.ze ?_|(refine AtT.andN rfl ⟨_, _, rfl, rfl, rfl⟩ rfl rfl rfl rfl (by omega) (by omega) (by decide) (A := part) (B := lowB b) ?_)
   all_goals first|refine AtT.zf ?_|refine AtT.ze ?_|(refine AtT.keqI ?_)
   all_goals (refine AtT.qm (d := 60) rfl (hz) ?_)
   all_goals (refine AtT.zz ?_)
   all_goals refine AtT.done ?_
   all_goals (refine At.nrm ?_)
   refine At.qX rfl rfl ?_
   rw [hmg]
   refine At.nrm ?_
   refine At.zl (.q 0 (.q 1 (.q 2 (.q 3 (.q 4 (.q 5 (.n false 6 (.n true 7 .done)))))))) ?_
   refine AtT.zh ?_
   refine AtT.zh ?_
   refine AtT.zh ?_
   refine AtT.clrN rfl trivial rfl rfl rfl rfl (by omega) (by omega) (by decide) (A := b) (B := part) ?_
   refine AtT.idxZ rfl trivial Tryz.underlying127 qQ rfl rfl (by omega) (by decide) ?_
   refine AtT.loadOP rfl trivial rfl qQ zX.zM hu1 rfl (by decide) ?_
   refine AtT.qx z131 ?_
   intro b9
   refine AtT.zW qQ ?_
   refine AtT.done ?_
   refine At.nrm ?_
   have hst := fw_set2 (l := L) (j := b) w0 (if fwB wn w0 = true then wn else w0) (by omega)
   have hbst : qP fwB w0 [wn] = if fwB wn w0 = true then wn else w0 := rfl
   rw [← hbst] at hst
   refine At.nrm ?_
   refine At.jo (ι := Unit) (fun _ => [(0, .pointer (some ⟨b0, 0, none⟩)), (3, .map (some mb)), (4, .slice (some ⟨b20, 0, none⟩) (2 ^ (knL s).length) (2 ^ (knL s).length)), (5, iv b), (6, iv part)]) (fun _ => [.blk b20 (LC (flat wye (L.set b (qP fwB w0 [wn]))) 131)]) (fun _ V'' => Le V2 V'') ?_ ?_
   ·refine At.draw (.q 0 (.q 1 (.q 2 (.q 3 (.q 4 (.q 5 (.q 6 (.q 7 (.q 8 (.q 9 (.q 10 (.q 11 (.q 12 (.q 13 (.q 14 (.q 15 (.n false 16 (.n false 17 (.q 18 (.n true 19 .done)))))))))))))))))))) ffm (by kernel_rfl) ?_
    refine AtT.zh ?_
    refine AtT.zh ?_
    refine AtT.zh ?_
    refine AtT.zh ?_
    refine AtT.idxZ rfl trivial Tryz.underlying127 qQ rfl rfl (by omega) (by decide) ?_
    refine AtT.loadOP rfl trivial rfl qQ zX.zM hu2 rfl (by decide) ?_
    first | refine AtT.zi qd ?_ | with_reducible refine AtT.zk qd ?_ | refine AtT.zn qd ?_
    first | refine AtT.zm tk3 ?_ | refine AtT.zo tk3 ?_
    first | refine AtT.qj ?_ | refine AtT.zU ?_
    first | refine AtT.zi qR ?_ | with_reducible refine AtT.zk qR ?_ | refine AtT.zn qR ?_
    first | refine AtT.zm tk3 ?_ | refine AtT.zo tk3 ?_
    refine AtT.zh ?_
    first | refine AtT.qj ?_ | refine AtT.zU ?_
    refine AtT.zh ?_
    refine AtT.ja (bd129_0 _) ?_
    refine AtT.ja (bd131_0_1_2 _ _ _) ?_
    refine AtT.zu (bs127_2_0_1 _ _ _ _ _ _) ?_
    intro q84 V84 hV84 hq84
    have g84 : Le V V84 := by first | exact hV84 | exact Le.trans (by assumption) hV84
    refine AtT.qg rfl rfl ok91 (best_w 92 [] fwB _ _ w0 [wn] (Sl.of_cells (l := [w0, wn]) wye_len (by rw [hwn, ← hwm, ← hwc]; exact hq84) (Nat.le_refl _) (by unfold maxLen; omega)) ok92 (fun x y _ _ => fewer_f x y _)) ?_
    rintro _ V85 hV85 rfl
    refine AtT.idxZ rfl trivial Tryz.underlying127 qQ rfl rfl (by omega) (by decide) ?_
    refine AtT.store rfl trivial rfl rfl qQ rfl rfl (by rw [hfl]; simp only [List.length_cons, List.length_nil]; omega) rfl hst (by repeat first|exact Upd.here|apply Upd.there) ?_
    refine AtT.done ?_
    refine At.nrm ?_
    all_goals (exact At.qC () (by first | assumption | exact Le.trans (by assumption) (by assumption)) ⟨rfl, rfl, rfl, rfl, rfl, trivial⟩ Pt.zM)
   rintro _ V5 ks' O' hV5 hk hO hl6
   subst hk hO
   rw [hbst]
   cases hfw : fwB wn w0 with
   | true =>
    rw [if_pos rfl]
    have hcond := of_decide_eq_true hfw
    rw [hwn] at hcond
    have hnw := in_new hin hsub hcand hcond
    refine At.nrm ?_
    exact At.qC wn ⟨hV5, by rw [hwn]; exact hnw⟩ ⟨rfl, rfl, rfl, rfl, rfl, trivial⟩ Pt.zM
   | false =>
    rw [if_neg (by simp)]
    have hcond := of_decide_eq_false hfw
    rw [hwn] at hcond
    refine At.nrm ?_
    exact At.qC w0 ⟨hV5, in_keep hin hsub hcond⟩ ⟨rfl, rfl, rfl, rfl, rfl, trivial⟩ Pt.zM
 rintro w2 V3 ks' O' ⟨hV3, hin3⟩ hk hO hl5
 subst hk hO
 have hq1 : ((part - 1 : Nat) : Int) = (part : Int) - 1 := by omega
 have hand : (part - 1) &&& b ≤ part - 1 := Nat.and_le_left
 refine At.nrm ?_
 refine At.zl (.q 0 (.q 1 (.q 2 (.q 3 (.q 4 .done))))) ?_
 refine AtT.zh ?_
 first | refine AtT.qD ?_ | refine AtT.qE ?_
 refine AtT.zh ?_
 refine AtT.andN rfl trivial rfl rfl hq1.symm rfl (by omega) (by omega) (by decide) (A := part - 1) (B := b) ?_
 refine AtT.zg ?_
 refine AtT.done ?_
 refine At.nrm ?_
 refine At.round ((part - 1) &&& b, w2) ?_ ?_ ?_ ?_
 ·show (part - 1) &&& b < part; omega
 ·exact ⟨hV2.trans hV3, and_sub _ _, hin3⟩
 ·exact ⟨rfl, rfl, rfl, rfl, rfl, trivial⟩
 ·exact Pt.zM
end Go.Proofs.YtghomjjffllkeaaGreatDoor
set_option linter.unusedVariables false
namespace Go.Pm
open Go.Gl Go.Lw
def FwS (s : Sh) (n e : Int) : Prop := (chE s ≠ 0 ∧ n = 0 ∧ e = chE s) ∨ (chE s = 0 ∧ e = 0 ∧ ∃ (m : Nat) (c : Int), n = m ∧ jr (gdS s) (knL s) m c)
def CeS (s : Sh) (n e : Int) : Prop := (chE s ≠ 0 ∧ n = 0 ∧ e = chE s) ∨ (chE s = 0 ∧ e = 0 ∧ ∃ (m : Nat), jr (gdS s) (knL s) m n)
end Go.Pm
namespace Go.Proofs.YtghomjjffllkeaaGreatDoor
open Go.Lw Go.Gl Go.Pm Go.RowKit
def PtR (s : Sh) (r : Value) (V' : View) : Prop := ∃ (a : Option Addr) (c : Nat) (ps : List Pc) (e : Int), r = .tuple #[.slice a ps.length c, iv e] ∧ Sl V' pce 4 (.slice a ps.length c) ps ∧ ((chE s ≠ 0 ∧ e = chE s ∧ ps = []) ∨ (chE s = 0 ∧ e = 0 ∧ MnR (gdS s) (knL s) ps))
theorem patches_f (s : Sh) (V : View) (v : Value) (hv : ShV V v s) : Fnc Tryz.prog 27 [v] V (PtR s) := by
 obtain ⟨a, c, rfl, hs⟩ := id hv
 refine qh Tryz.func27 rfl Tryz.ntmps27 (Nat.le_of_ble_eq_true rfl) ?_
 intro w0 hw0
 refine At.nrm ?_
 refine At.zl (.n false 0 (.q 1 (.q 2 .done))) ?_
 refine AtT.qZ ?_
 intro b1
 refine AtT.zg ?_
 refine AtT.zg ?_
 refine AtT.done ?_
 refine At.nrm ?_
 by_cases h0 : chE s = 0
 rotate_left
 ·refine At.zl (.q 0 (.n false 1 (.q 2 (.q 3 (.q 4 (.q 5 (.q 6 .done))))))) ?_
  first | refine AtT.zD zP ?_ | refine AtT.zK zP ?_ | refine AtT.zC zP ?_
  refine AtT.qg rfl rfl ok57 (open_bad s h0 _ _ hv) ?_
  rintro v10 V10 hV10 rfl
  refine AtT.zh ?_
  refine AtT.zN ?_
  refine AtT.zN ?_
  refine AtT.zg ?_
  refine AtT.zg ?_
  refine AtT.done ?_
  refine At.nrm ?_
  refine At.nrm ?_
  refine At.zl (.q 0 (.q 1 .done)) ?_
  refine AtT.zh ?_
  refine AtT.qG ?_
  refine AtT.done ?_
  refine At.nrm ?_
  refine At.qA rfl (decide_eq_true h0) ?_
  refine At.nrm ?_
  refine At.zl (.q 0 (.q 1 (.q 2 .done))) ?_
  refine AtT.zh ?_
  refine AtT.zg ?_
  refine AtT.zg ?_
  refine AtT.done ?_
  refine At.nrm ?_
  exact At.je rfl (.tmp rfl) (.tmp rfl) ⟨none, 0, [], _, rfl, Sl.nil _ _ _, .inl ⟨h0, rfl, rfl⟩⟩
 have hok := jq h0
 have hkn := hok.kn
 refine At.zl (.q 0 (.n false 1 (.q 2 (.q 3 (.q 4 (.q 5 (.q 6 .done))))))) ?_
 first | refine AtT.zD zP ?_ | refine AtT.zK zP ?_ | refine AtT.zC zP ?_
 refine AtT.qg rfl rfl ok57 (open_ok s h0 _ _ hv) ?_
 rintro v10 V10 hV10 ⟨b, rfl, hb⟩
 refine AtT.zh ?_
 refine AtT.zN ?_
 refine AtT.zN ?_
 refine AtT.zg ?_
 refine AtT.zg ?_
 refine AtT.done ?_
 refine At.nrm ?_
 refine At.nrm ?_
 refine At.zl (.q 0 (.q 1 .done)) ?_
 refine AtT.zh ?_
 refine AtT.qG ?_
 refine AtT.done ?_
 refine At.nrm ?_
 refine At.qX rfl rfl ?_
 refine At.nrm ?_
 refine At.zl (.q 0 (.n false 1 (.q 2 .done))) ?_
 refine AtT.zh ?_
 refine AtT.qg rfl rfl ok63 (mend_f s hok _ b hb) ?_
 rintro v17 V17 hV17 ⟨ps, hs17, hm⟩
 refine AtT.zg ?_
 refine AtT.done ?_
 refine At.nrm ?_
 obtain ⟨a17, c17, rfl, q1, q2, _⟩ := id hs17
 clear q1 q2
 have hbl := best_le_len (sh_gok hok) (kn_on hok) (kn_fig hok) hm.best
 have hlen0 : (flat pce (List.replicate ps.length (⟨0, 0, 0, 0⟩ : Pc))).length = ps.length * 4 := by rw [qV pce_len]; simp
 refine At.zl (.q 0 (.q 1 (.n false 2 (.q 3 .done)))) ?_
 refine AtT.zh ?_
 first | refine AtT.zZ Tryz.underlying27 ?_ | refine AtT.qa Tryz.underlying27 ?_
 refine AtT.makeSl rfl trivial pce rfl Tryz.underlying27 rw26 rfl rfl (by decide) rfl rfl (by omega) (by omega) (by decide) (za := (⟨0, 0, 0, 0⟩ : Pc)) ?_
 intro b20
 refine AtT.zg ?_
 refine AtT.done ?_
 refine At.nrm ?_
 refine At.zl (.q 0 (.q 1 (.n true 2 .done))) ?_
 refine AtT.zh ?_
 refine AtT.zh ?_
 refine AtT.copyO rfl trivial Tryz.underlying27 zS rfl rfl hs17 pce_len (fun _ => rfl) hlen0 (by repeat first|exact Upd.here|apply Upd.there) (by decide) ?_
 refine AtT.done ?_
 refine At.nrm ?_
 refine At.zl (.q 0 (.q 1 (.q 2 .done))) ?_
 refine AtT.zh ?_
 refine AtT.zg ?_
 refine AtT.zg ?_
 refine AtT.done ?_
 refine At.nrm ?_
 refine At.giveB (b := b20) zX.zM (fun V3 hV3 hb3 => ?_)
 exact At.je rfl (.tmp rfl) (.tmp rfl) ⟨_, _, ps, 0, rfl, Sl.of_cells pce_len (qO hb3) (Nat.le_refl _) (by unfold maxLen; omega), .inr ⟨h0, rfl, hm⟩⟩
theorem fewest_f (s : Sh) (V : View) (v : Value) (hv : ShV V v s) : Fnc Tryz.prog 23 [v] V fun r _ => ∃ n e, r = .tuple #[iv n, iv e] ∧ FwS s n e := by
 obtain ⟨a, c, rfl, hs⟩ := id hv
 refine qh Tryz.func23 rfl Tryz.ntmps23 (Nat.le_of_ble_eq_true rfl) ?_
 intro w0 hw0
 refine At.nrm ?_
 refine At.zl (.n false 0 (.q 1 (.q 2 .done))) ?_
 refine AtT.qZ ?_
 intro b1
 refine AtT.zg ?_
 refine AtT.zg ?_
 refine AtT.done ?_
 refine At.nrm ?_
 refine At.zl (.q 0 (.n false 1 (.q 2 (.q 3 (.q 4 (.q 5 (.q 6 .done))))))) ?_
 first | refine AtT.zD zP ?_ | refine AtT.zK zP ?_ | refine AtT.zC zP ?_
 refine AtT.qg rfl rfl ok27 (patches_f s _ _ hv) ?_
 rintro v8 V8 hV8 ⟨a8, c8, ps, e8, rfl, hs8, hr⟩
 refine AtT.zh ?_
 refine AtT.zN ?_
 refine AtT.zN ?_
 refine AtT.zg ?_
 refine AtT.zg ?_
 refine AtT.done ?_
 refine At.nrm ?_
 refine At.zl (.q 0 (.q 1 (.q 2 (.q 3 (.q 4 .done))))) ?_
 refine AtT.zh ?_
 first | refine AtT.zZ Tryz.underlying27 ?_ | refine AtT.qa Tryz.underlying27 ?_
 refine AtT.zh ?_
 refine AtT.zg ?_
 refine AtT.zg ?_
 refine AtT.done ?_
 refine At.nrm ?_
 refine At.je rfl (.tmp rfl) (.tmp rfl) ⟨_, _, rfl, ?_⟩
 rcases hr with ⟨h0, rfl, rfl⟩ | ⟨h0, rfl, hm⟩
 ·exact .inl ⟨h0, rfl, rfl⟩
 ·exact .inr ⟨h0, rfl, _, _, rfl, hm.best⟩
theorem cells_f (s : Sh) (V : View) (v : Value) (hv : ShV V v s) : Fnc Tryz.prog 25 [v] V fun r _ => ∃ n e, r = .tuple #[iv n, iv e] ∧ CeS s n e := by
 obtain ⟨a, c, rfl, hs⟩ := id hv
 refine qh Tryz.func25 rfl Tryz.ntmps25 (Nat.le_of_ble_eq_true rfl) ?_
 intro w0 hw0
 refine At.nrm ?_
 refine At.zl (.n false 0 (.q 1 (.q 2 .done))) ?_
 refine AtT.qZ ?_
 intro b1
 refine AtT.zg ?_
 refine AtT.zg ?_
 refine AtT.done ?_
 refine At.nrm ?_
 refine At.zl (.q 0 (.n false 1 (.q 2 (.q 3 (.q 4 (.q 5 (.q 6 .done))))))) ?_
 first | refine AtT.zD zP ?_ | refine AtT.zK zP ?_ | refine AtT.zC zP ?_
 refine AtT.qg rfl rfl ok27 (patches_f s _ _ hv) ?_
 rintro v11 V11 hV11 ⟨a11, c11, ps, e11, rfl, hs11, hr⟩
 refine AtT.zh ?_
 refine AtT.zN ?_
 refine AtT.zN ?_
 refine AtT.zg ?_
 refine AtT.zg ?_
 refine AtT.done ?_
 refine At.nrm ?_
 have hbd : (∀ p ∈ ps, 1 ≤ p.h ∧ p.h ≤ 6 ∧ 1 ≤ p.w ∧ p.w ≤ 6) ∧ ps.length ≤ 10 := by
  rcases hr with ⟨h0, rfl, rfl⟩ | ⟨h0, rfl, hm⟩
  ·exact ⟨fun p hp => (by cases hp), by simp⟩
  ·have hok := jq h0
   have hbl := best_le_len (sh_gok hok) (kn_on hok) (kn_fig hok) hm.best
   have hkn := hok.kn
   refine ⟨fun p hp => ?_, by omega⟩
   have hl := hm.mends.lies p hp
   have h1 := hl.h
   have h2 := hl.w
   have hn := hok.n
   have hw := hok.w
   have hR : (gdS s).R = (s.rows.length : Int) := rfl
   have hC : (gdS s).C = (wdS s : Int) := rfl
   omega
 have har : ∀ k, k ≤ ps.length → 0 ≤ arL (ps.take k) ∧ arL (ps.take k) ≤ 36 * k := by
  intro k
  induction k with
  | zero => intro _; simp [arL]
  | succ k ih =>
   intro hk
   have ih' := ih (by omega)
   have hp : ps[k]? = some ps[k] := List.getElem?_eq_getElem (by omega)
   have hb := hbd.1 _ (List.mem_of_getElem? hp)
   have := ar_bd (h := ps[k].h) (w := ps[k].w) ⟨by omega, by omega⟩ ⟨by omega, by omega⟩
   rw [arL_take hp]
   unfold arP
   push_cast
   omega
 refine At.zl (.q 0 .done) ?_
 refine AtT.zg ?_
 refine AtT.done ?_
 refine At.nrm ?_
 refine At.zl (.q 0 (.q 1 (.q 2 .done))) ?_
 refine AtT.zh ?_
 first | refine AtT.zZ Tryz.underlying27 ?_ | refine AtT.qa Tryz.underlying27 ?_
 refine AtT.zh ?_
 refine AtT.done ?_
 refine At.nrm ?_
 refine At.lp (ι := Nat) (KS := fun k => [(5, iv e11), (6, iv (arL (ps.take k))), (14, .slice a11 ps.length c11), (15, iv ps.length), (16, iv k)]) (OS := fun _ => [])
  (VS := fun k V' => V11 = V' ∧ k ≤ ps.length) (μ := fun k => ps.length - k) 0 ?_ ?_ ?_ ?_
 ·exact ⟨rfl, rfl, rfl, rfl, rfl, trivial⟩
 ·exact Pt.zM
 ·exact ⟨rfl, Nat.zero_le _⟩
 rintro k _ ks' O' ⟨rfl, hkl⟩ hk hO hl2
 subst hk hO
 refine At.nrm ?_
 refine At.zl (.q 0 .done) ?_
 refine AtT.zY ?_
 refine AtT.done ?_
 refine At.nrm ?_
 refine At.qc rfl (fun hp => ?_) (fun hp => ?_)
 ·obtain ⟨p, hpk⟩ : ∃ p, ps[k]? = some p := ⟨_, List.getElem?_eq_getElem (by omega)⟩
  have hb := hbd.1 _ (List.mem_of_getElem? hpk)
  have hab := ar_bd (h := p.h) (w := p.w) ⟨by omega, by omega⟩ ⟨by omega, by omega⟩
  have h1 := har k hkl
  have hfit : Fit (p.h * p.w) := Fit.of (by omega) (by omega)
  have hfit2 : Fit (arL (ps.take k) + p.h * p.w) := Fit.of (by omega) (by omega)
  have htk := arL_take hpk
  refine At.nrm ?_
  refine At.zl (.q 0 (.q 1 (.n false 2 (.n true 3 .done)))) ?_
  refine AtT.qo Tryz.underlying27 zS ?_
  intro p18 e18 he18 hc18
  obtain rfl : p = e18 := by have : ps[k]? = some e18 := (by simpa using he18); rw [hpk] at this; simpa using this
  first | refine AtT.zD zS ?_ | refine AtT.zK zS ?_ | refine AtT.zC zS ?_
  refine AtT.qx z26 ?_
  intro b8
  refine AtT.zW zS ?_
  refine AtT.done ?_
  refine At.nrm ?_
  refine At.zl (.q 0 (.q 1 (.q 2 (.q 3 (.q 4 (.q 5 (.q 6 (.q 7 .done)))))))) ?_
  refine AtT.zh ?_
  first | refine AtT.zi zy ?_ | with_reducible refine AtT.zk zy ?_ | refine AtT.zn zy ?_
  first | refine AtT.zm tk3 ?_ | refine AtT.zo tk3 ?_
  first | refine AtT.zi zx ?_ | with_reducible refine AtT.zk zx ?_ | refine AtT.zn zx ?_
  first | refine AtT.zm tk3 ?_ | refine AtT.zo tk3 ?_
  first | refine AtT.kmul ?_ | refine AtT.kmulW ?_
  first | refine AtT.qj ?_ | refine AtT.zU ?_
  refine AtT.zg ?_
  refine AtT.done ?_
  refine At.nrm ?_
  refine At.zl (.q 0 (.q 1 .done)) ?_
  first | refine AtT.qj ?_ | refine AtT.zU ?_
  refine AtT.zh ?_
  refine AtT.done ?_
  refine At.nrm ?_
  refine At.round (k + 1) ?_ ?_ ?_ ?_
  ·show ps.length - (k + 1) < ps.length - k; omega
  ·exact ⟨rfl, by omega⟩
  ·rw [htk]; exact ⟨rfl, rfl, rfl, rfl, ivs (by omega), trivial⟩
  ·exact Pt.zM
 obtain rfl : k = ps.length := by omega
 rw [List.take_length]
 refine At.nrm ?_
 refine At.zl (.q 0 (.q 1 (.q 2 (.q 3 .done)))) ?_
 refine AtT.zh ?_
 refine AtT.zh ?_
 refine AtT.zg ?_
 refine AtT.zg ?_
 refine AtT.done ?_
 refine At.nrm ?_
 refine At.je rfl (.tmp rfl) (.tmp rfl) ⟨_, _, rfl, ?_⟩
 rcases hr with ⟨h0, rfl, rfl⟩ | ⟨h0, rfl, hm⟩
 ·exact .inl ⟨h0, rfl, rfl⟩
 ·exact .inr ⟨h0, rfl, _, hm.best⟩
end Go.Proofs.YtghomjjffllkeaaGreatDoor
set_option linter.unusedVariables false
namespace Go.Pm
open Go.Gl Go.Lw
def InN (N : Nat) (l : List Int) : Prop := ∀ i ∈ l, 0 ≤ i ∧ i < (N : Int)
theorem alG_in (N : Nat) (S : Int → Int → Bool) : ∀ (t : Nat) (begun out : List Int), t ≤ N → begun.length + t ≤ N → out.length ≤ N → InN N begun → InN N out → InN N (alG N S t begun out) ∧ (alG N S t begun out).length ≤ N
 | 0, begun, out, _, _, h2, _, h4 => ⟨h4, h2⟩
 | t + 1, begun, out, h0, h1, h2, h3, h4 => by
  have hnew : InN N (begun ++ [(N : Int) - ((t + 1 : Nat) : Int)]) := fun i hi => by
   rcases List.mem_append.1 hi with h | h
   ·exact h3 i h
   ·rw [List.mem_singleton] at h; subst h; push_cast; omega
  have hln : (begun ++ [(N : Int) - ((t + 1 : Nat) : Int)]).length + t ≤ N := by rw [List.length_append]; simp only [List.length_cons, List.length_nil]; omega
  obtain ⟨a1, a2⟩ := alG_in N S t (begun ++ [(N : Int) - ((t + 1 : Nat) : Int)]) (begun ++ [(N : Int) - ((t + 1 : Nat) : Int)]) (by omega) hln (by omega) hnew hnew
  simp only [alG]
  split
  ·exact alG_in N S t begun out (by omega) (by omega) h2 h3 h4
  ·split
   ·exact alG_in N S t begun _ (by omega) (by omega) a2 h3 a1
   ·exact alG_in N S t begun out (by omega) (by omega) h2 h3 h4
end Go.Pm
set_option linter.unusedVariables false
namespace Go.Proofs.YtghomjjffllkeaaGreatDoor
open Go.Lw Go.Gl Go.Pm Go.RowKit
theorem share1_f (s : Sh) (hok : ShOk s) (z x : Int) (hz : 0 ≤ z ∧ z < ((knL s).length : Int)) (hx : 0 ≤ x ∧ x < ((knL s).length : Int)) (V : View) (b : Nat) (p3 p8 : Addr) (hb : BnV V b s) (q3 : Cells V p3 [.pointer (some ⟨b, 0, none⟩)]) (q8 : Cells V p8 [iv x]) :
  Fnc Tryz.prog 94 ([] ++ [iv z] ++ [.pointer (some p3), .pointer (some p8)]) V fun r _ => r = .bool (shI (gdS s) (knL s) z x) := by
 obtain ⟨i, rfl⟩ : ∃ i : Nat, z = (i : Int) := ⟨z.toNat, by omega⟩
 obtain ⟨k, rfl⟩ : ∃ k : Nat, x = (k : Int) := ⟨x.toNat, by omega⟩
 refine qh Tryz.func94 rfl Tryz.ntmps94 (Nat.le_of_ble_eq_true rfl) ?_
 intro w0 hw0
 refine At.nrm ?_
 refine At.zl (.q 0 .done) ?_
 refine AtT.zg ?_
 refine AtT.done ?_
 refine At.nrm ?_
 refine At.zl (.q 0 (.q 1 (.q 2 (.n false 3 (.q 4 .done))))) ?_
 first | refine AtT.zm tk80 ?_ | refine AtT.zo tk80 ?_
 refine AtT.zh ?_
 first | refine AtT.zm tk3 ?_ | refine AtT.zo tk3 ?_
 refine AtT.zq rfl rfl ok69 (share_f s hok i k (by omega) (by omega) _ b hb) ?_
 rintro _ rfl
 refine AtT.zg ?_
 refine AtT.done ?_
 refine At.nrm ?_
 exact At.qb rfl (.tmp rfl) (by unfold shI; rw [Int.toNat_natCast, Int.toNat_natCast])
theorem alone_f (s : Sh) (hok : ShOk s) (b : Nat) : ∀ (t : Nat) (begun : List Int) (from' : Int) (V : View) (vb : Value), ((knL s).length : Int) - from' = t → 0 ≤ from' → begun.length + t ≤ (knL s).length → InN (knL s).length begun → BnV V b s → SlI V vb begun →
  Fnc Tryz.prog 64 [.pointer (some ⟨b, 0, none⟩), vb, iv from'] V fun r V' => SlI V' r (alG (knL s).length (shI (gdS s) (knL s)) t begun begun) := by
 intro t
 induction t using Nat.strongRecOn with
 | _ t ih =>
 intro begun from' V vb hft hf0 hlen hin hb hs
 have n10 := hok.kn
 obtain ⟨a, c, rfl, k1, k2, _⟩ := id hs
 clear k1 k2
 refine qh Tryz.func64 rfl Tryz.ntmps64 (Nat.le_of_ble_eq_true rfl) ?_
 intro w0 hw0
 refine At.nrm ?_
 refine At.zl (.n false 0 (.q 1 .done)) ?_
 refine AtT.qZ ?_
 intro b3
 refine AtT.zg ?_
 refine AtT.done ?_
 refine At.nrm ?_
 refine At.zl (.q 0 (.q 1 .done)) ?_
 refine AtT.zh ?_
 refine AtT.zg ?_
 refine AtT.done ?_
 refine At.nrm ?_
 refine At.zl (.q 0 (.n false 1 (.n true 2 .done))) ?_
 refine AtT.zh ?_
 refine AtT.qx z3 ?_
 intro b8
 first | refine AtT.jd tk3 ?_ | refine AtT.zW tk3 ?_
 refine AtT.done ?_
 refine At.nrm ?_
 refine At.giveB (b := b3) zX.zM (fun V1 hV1 hb3 => ?_)
 refine At.lp (ι := Nat × List Int × Option Addr × Nat × Nat) (KS := fun g => [(1, .slice a begun.length c), (3, .pointer (some ⟨b3, 0, none⟩)), (7, .slice g.2.2.1 g.2.1.length g.2.2.2.1), (8, .pointer (some ⟨g.2.2.2.2, 0, none⟩))])
  (OS := fun g => [.blk g.2.2.2.2 (LC [iv (((knL s).length : Int) - (g.1 : Int))] 3)])
  (VS := fun g V' => Le V1 V' ∧ g.1 ≤ t ∧ SlI V' (.slice g.2.2.1 g.2.1.length g.2.2.2.1) g.2.1 ∧ alG (knL s).length (shI (gdS s) (knL s)) g.1 begun g.2.1 = alG (knL s).length (shI (gdS s) (knL s)) t begun begun ∧ g.2.1.length ≤ (knL s).length) (μ := fun g => g.1) (t, begun, a, c, b8) ?_ ?_ ?_ ?_
 ·exact ⟨rfl, rfl, rfl, rfl, trivial⟩
 ·dsimp only
  rw [show ((knL s).length : Int) - (t : Int) = from' by omega]
  ·exact Pt.zM
 ·exact ⟨Le.refl _, Nat.le_refl _, hs.le hV1, rfl, by dsimp only; omega⟩
 ·rintro ⟨m, out, ao, co, b8⟩ V' ks' O' ⟨hVV, hst, hso, heq, hol⟩ hk2 hO hl3
  dsimp only at hst hso heq hk2 hO hol
  subst hk2 hO
  have hb' := (hb.le hV1).le hVV
  obtain ⟨ab, cb, ak, ck, hc0, hc1, hc2, hc3, hsb, hsk⟩ := bn_get hb'
  have q3 := (qO hb3).le hVV
  have hs1 := (hs.le hV1).le hVV
  refine At.nrm ?_
  refine At.jo (ι := Unit) (fun _ => [(1, .slice a begun.length c), (3, .pointer (some ⟨b3, 0, none⟩)), (7, .slice ao out.length co), (8, .pointer (some ⟨b8, 0, none⟩)), (18, .bool (decide (((knL s).length : Int) - (m : Int) < ((knL s).length : Int))))]) (fun _ => [.blk b8 (LC [iv (((knL s).length : Int) - (m : Int))] 3)]) (fun _ V'' => V' = V'') ?_ ?_
  ·refine At.draw (.q 0 (.q 1 (.q 2 (.q 3 (.q 4 (.q 5 (.q 6 .done))))))) ffm (by kernel_rfl) ?_
   first | refine AtT.zm tk3 ?_ | refine AtT.zo tk3 ?_
   first | refine AtT.zm tk80 ?_ | refine AtT.zo tk80 ?_
   refine AtT.knil ?_
   first | refine AtT.zi qp ?_ | with_reducible refine AtT.zk qp ?_ | refine AtT.zn qp ?_
   first | refine AtT.zm tk84 ?_ | refine AtT.zo tk84 ?_
   first | refine AtT.zZ Tryz.underlying84 ?_ | refine AtT.qa Tryz.underlying84 ?_
   refine AtT.zY ?_
   refine AtT.done ?_
   refine At.nrm ?_
   all_goals (exact At.qC () rfl ⟨rfl, rfl, rfl, rfl, rfl, trivial⟩ Pt.zM)
  rintro _ _ ks' O' rfl hk hO hl4
  subst hk hO
  refine At.qc rfl (fun hp => ?_) (fun hp => ?_)
  ·obtain ⟨m, rfl⟩ : ∃ s', m = s' + 1 := ⟨m - 1, by omega⟩
   have hxi : 0 ≤ ((knL s).length : Int) - ((m + 1 : Nat) : Int) ∧ ((knL s).length : Int) - ((m + 1 : Nat) : Int) < ((knL s).length : Int) := by push_cast; omega
   refine At.giveB (b := b8) zX.zM (fun V2 hV2 hb8 => ?_)
   have q8 := qO hb8
   have hb2 := hb'.le hV2
   have hs2 := hs1.le hV2
   have q3b := q3.le hV2
   have hg2 : Le V V2 := (hV1.trans hVV).trans hV2
   have hso2 := hso.le hV2
   simp only [alG] at heq
   obtain ⟨x, hxe⟩ : ∃ x, x = ((knL s).length : Int) - ((m + 1 : Nat) : Int) := ⟨_, rfl⟩
   rw [← hxe] at hxi heq q8
   refine At.nrmB ?_
   refine At.jo (ι := List Int × Option Addr × Nat) (fun g => [(1, .slice a begun.length c), (3, .pointer (some ⟨b3, 0, none⟩)), (7, .slice g.2.1 g.1.length g.2.2), (8, .pointer (some ⟨b8, 0, none⟩))]) (fun _ => [])
    (fun g V'' => Le V2 V'' ∧ SlI V'' (.slice g.2.1 g.1.length g.2.2) g.1 ∧ alG (knL s).length (shI (gdS s) (knL s)) m begun g.1 = alG (knL s).length (shI (gdS s) (knL s)) t begun begun ∧ g.1.length ≤ (knL s).length) ?_ ?_
   ·refine At.nrm ?_
    refine At.zl (.q 0 (.q 1 (.n false 2 .done))) ?_
    refine AtT.zh ?_
    refine AtT.kfn ?_
    refine AtT.zq rfl rfl ok70 (contains_n 94 [.pointer (some ⟨b3, 0, none⟩), .pointer (some ⟨b8, 0, none⟩)] (fun z => shI (gdS s) (knL s) z x) _ _ _ hs2 ok94 (fun z hz => share1_f s hok z x (hin z hz) hxi _ b _ _ hb2 q3b q8)) ?_
    rintro _ rfl
    refine AtT.done ?_
    refine At.nrm ?_
    refine At.cond rfl (fun hc => ?_) (fun hc => ?_)
    ·have hsh : shS (shI (gdS s) (knL s)) begun x = true := hc
     rw [if_pos hsh] at heq
     refine At.nrm ?_
     exact At.qC (out, ao, co) ⟨Le.refl _, hso2, heq, hol⟩ ⟨rfl, rfl, rfl, rfl, trivial⟩ Pt.zM
    ·have hsh : ¬ shS (shI (gdS s) (knL s)) begun x = true := fun h => by rw [show shS (shI (gdS s) (knL s)) begun x = false from hc] at h; cases h
     rw [if_neg hsh] at heq
     have hnin : InN (knL s).length (begun ++ [x]) := fun i hi => by
      rcases List.mem_append.1 hi with h | h
      ·exact hin i h
      ·rw [List.mem_singleton] at h; subst h; exact hxi
     have hnl : (begun ++ [x]).length = begun.length + 1 := by simp
     have hap := alG_in (knL s).length (shI (gdS s) (knL s)) m (begun ++ [x]) (begun ++ [x]) (by omega) (by omega) (by omega) hnin hnin
     refine At.nrm ?_
     refine At.jo (ι := Option Addr × Nat) (fun g => [(1, .slice a begun.length c), (3, .pointer (some ⟨b3, 0, none⟩)), (7, .slice ao out.length co), (8, .pointer (some ⟨b8, 0, none⟩)), (9, .slice g.1 (alG (knL s).length (shI (gdS s) (knL s)) m (begun ++ [x]) (begun ++ [x])).length g.2)]) (fun _ => [])
      (fun g V'' => Le V2 V'' ∧ SlI V'' (.slice g.1 (alG (knL s).length (shI (gdS s) (knL s)) m (begun ++ [x]) (begun ++ [x])).length g.2) (alG (knL s).length (shI (gdS s) (knL s)) m (begun ++ [x]) (begun ++ [x]))) ?_ ?_
     ·refine At.draw (.q 0 (.q 1 (.q 2 (.q 3 (.q 4 (.q 5 (.q 6 (.q 7 (.q 10 (.q 11 (.n false 8 (.n false 9 (.n false 12 (.q 13 .done)))))))))))))) ffm (by kernel_rfl) ?_
      first | refine AtT.zm tk80 ?_ | refine AtT.zo tk80 ?_
      refine AtT.zh ?_
      refine AtT.zh ?_
      first | refine AtT.zZ Tryz.underlying39 ?_ | refine AtT.qa Tryz.underlying39 ?_
      refine AtT.zh ?_
      first | refine AtT.zZ Tryz.underlying39 ?_ | refine AtT.qa Tryz.underlying39 ?_
      first | refine AtT.kclipAll Tryz.underlying39 tk3 ?_ | refine AtT.kclip Tryz.underlying39 tk3 ?_
      intro a30 hs30
      first | refine AtT.zm tk3 ?_ | refine AtT.zo tk3 ?_
      first | refine AtT.zm tk3 ?_ | refine AtT.zo tk3 ?_
      first | refine AtT.qj ?_ | refine AtT.zU ?_
      refine AtT.zu (zT _) ?_
      intro q32 V32 hV32 hq32
      have g32 : Le V V32 := by first | exact hV32 | exact Le.trans (by assumption) hV32
      refine AtT.appendC rfl trivial Tryz.underlying39 rw3 rfl (by decide) rfl (by first | assumption | exact Sl.le (by assumption) (by assumption)) rfl rfl (by first | assumption | exact Cells.le (by assumption) (by assumption)) (fun _ => rfl) (by simp) (by unfold maxLen; simp only [List.length_cons, List.length_nil]; omega) (by simp only [List.length_cons, List.length_nil]; omega) (by decide) (enc := ei) (m := [x]) ?_
      intro a33 c33 V33 hV33 hs33
      have g33 : Le V V33 := by first | exact hV33 | exact Le.trans (by assumption) hV33
      refine AtT.qg rfl rfl ok64 (ih m (by omega) (begun ++ [x]) (x + 1) _ _ (by omega) (by omega) (by omega) hnin (hb2.le (by first | assumption | exact Le.trans (by assumption) (by assumption))) hs33) ?_
      rintro v36 V36 hV36 hs36; obtain ⟨a36, c36, rfl, _⟩ := id hs36
      refine AtT.zg ?_
      refine AtT.done ?_
      refine At.nrm ?_
      all_goals (exact At.qC (a36, c36) ⟨by first | assumption | exact Le.trans (by assumption) (by assumption) | exact Le.trans (Le.trans (by assumption) (by assumption)) (by assumption), hs36⟩ ⟨rfl, rfl, rfl, rfl, rfl, trivial⟩ Pt.zM)
     rintro ⟨a36, c36⟩ V36 ks' O' ⟨hVV2, hs36⟩ hk hO hl5
     dsimp only at hk hO hs36
     subst hk hO
     have hso3 := hso2.le hVV2
     refine At.nrm ?_
     refine At.zl (.q 0 (.q 1 (.q 2 (.q 3 (.q 4 .done))))) ?_
     refine AtT.zh ?_
     first | refine AtT.zZ Tryz.underlying39 ?_ | refine AtT.qa Tryz.underlying39 ?_
     refine AtT.zh ?_
     first | refine AtT.zZ Tryz.underlying39 ?_ | refine AtT.qa Tryz.underlying39 ?_
     refine AtT.qw ?_
     refine AtT.done ?_
     refine At.nrm ?_
     refine At.qc rfl (fun hm => ?_) (fun hm => ?_)
     ·rw [if_pos (by omega)] at heq
      refine At.nrm ?_
      refine At.zl (.q 0 (.q 1 .done)) ?_
      refine AtT.zh ?_
      refine AtT.zg ?_
      refine AtT.done ?_
      refine At.nrm ?_
      exact At.qC (alG (knL s).length (shI (gdS s) (knL s)) m (begun ++ [x]) (begun ++ [x]), a36, c36) ⟨hVV2, hs36, heq, hap.2⟩ ⟨rfl, rfl, rfl, rfl, trivial⟩ Pt.zM
     ·rw [if_neg (by omega)] at heq
      refine At.nrm ?_
      exact At.qC (out, ao, co) ⟨hVV2, hso3, heq, hol⟩ ⟨rfl, rfl, rfl, rfl, trivial⟩ Pt.zM
   rintro ⟨out2, ao2, co2⟩ V3 ks' O' ⟨hV3, hso3, heq3, hol3⟩ hk2 hO hl4
   dsimp only at hk2 hO hso3 heq3 hol3
   subst hk2 hO
   have q83 := q8.le hV3
   refine At.nrm ?_
   refine At.zl (.q 0 .done) ?_
   first | refine AtT.zm tk3 ?_ | refine AtT.zo tk3 ?_
   refine AtT.done ?_
   refine At.nrm ?_
   refine At.zl (.n false 0 (.n true 1 .done)) ?_
   refine AtT.qx z3 ?_
   intro b8
   first | refine AtT.jd tk3 ?_ | refine AtT.zW tk3 ?_
   refine AtT.done ?_
   refine At.nrm ?_
   refine At.zl (.q 0 (.q 1 (.n true 2 .done))) ?_
   first | refine AtT.zm tk3 ?_ | refine AtT.zo tk3 ?_
   first | refine AtT.qj ?_ | refine AtT.zU ?_
   first | refine AtT.jd tk3 ?_ | refine AtT.zW tk3 ?_
   refine AtT.done ?_
   refine At.nrm ?_
   refine At.round (m, out2, ao2, co2, b8) ?_ ?_ ?_ ?_
   ·show m < m + 1; omega
   ·exact ⟨(hVV.trans hV2).trans hV3, by dsimp only; omega, hso3, heq3, hol3⟩
   ·exact ⟨rfl, rfl, rfl, rfl, trivial⟩
   dsimp only
   rw [show ((knL s).length : Int) - (m : Int) = x + 1 by omega]
   ·exact Pt.zM
  ·obtain rfl : m = 0 := by omega
   refine At.nrm ?_
   refine At.zl (.q 0 (.q 1 .done)) ?_
   refine AtT.zh ?_
   refine AtT.zg ?_
   refine AtT.done ?_
   refine At.nrm ?_
   refine At.qb rfl (.tmp rfl) ?_
   rw [← heq]; exact hso
end Go.Proofs.YtghomjjffllkeaaGreatDoor


set_option linter.unusedVariables false
namespace Go.Bl
open Go.Gl Go.Lw
structure Pq where
 m : Int
 o : Int
 h : Int
 deriving DecidableEq
structure Tq where
 p : Pq
 f : Bool
abbrev stv (s : Nat) : Value := .agg #[iv (s : Int)]
end Go.Bl

set_option linter.unusedVariables false
namespace Go.Pm
open Go.Gl Go.Lw
def cAe (s : Sh) (l : List Int) : Int :=
 if chE s ≠ 0 then chE s else if lstB l (knL s).length = false then 3 else if okS (shI (gdS s) (knL s)) l = false then 16 else 0
def aloL (s : Sh) : List Int := alG (knL s).length (shI (gdS s) (knL s)) (knL s).length [] []
theorem okS_no {S : Int → Int → Bool} {l : List Int} {k : Nat} {x : Int} (h : l[k]? = some x) (hs : shS S (l.take k) x = true) : okS S l = false := by
 unfold okS
 rw [decide_eq_false_iff_not]
 intro hp
 unfold shS at hs
 obtain ⟨y, hy, hS⟩ := List.any_eq_true.1 hs
 obtain ⟨i, hi, rfl⟩ := List.mem_take_iff_getElem.1 hy
 have hkl := (List.getElem?_eq_some_iff.1 h).1
 have e : l[k] = x := (List.getElem?_eq_some_iff.1 h).2
 have := List.pairwise_iff_getElem.1 hp i k (by omega) hkl (by omega)
 rw [e, hS] at this; cases this
theorem okS_yes {S : Int → Int → Bool} {l : List Int} (h : ∀ k x, l[k]? = some x → shS S (l.take k) x = false) : okS S l = true := by
 unfold okS
 rw [decide_eq_true_eq, List.pairwise_iff_getElem]
 intro i j hi hj hij
 have := h j _ (List.getElem?_eq_getElem hj)
 unfold shS at this
 cases c : S l[i] l[j] with
 | false => rfl
 | true =>
  rw [List.any_eq_true.2 ⟨l[i], List.mem_take_iff_getElem.2 ⟨i, by omega, rfl⟩, c⟩] at this; cases this
end Go.Pm
set_option linter.unusedVariables false
namespace Go.Proofs.YtghomjjffllkeaaGreatDoor
open Go.Lw Go.Gl Go.Pm Go.RowKit
theorem aloneP_f (s : Sh) (V : View) (v : Value) (hv : ShV V v s) : Fnc Tryz.prog 28 [v] V fun r V' => ∃ u, r = .tuple #[u, iv (chE s)] ∧ SlI V' u (if chE s = 0 then aloL s else []) := by
 obtain ⟨a, c, rfl, hs⟩ := id hv
 refine qh Tryz.func28 rfl Tryz.ntmps28 (Nat.le_of_ble_eq_true rfl) ?_
 intro w0 hw0
 refine At.nrm ?_
 refine At.zl (.n false 0 (.q 1 (.q 2 .done))) ?_
 refine AtT.qZ ?_
 intro b1
 refine AtT.zg ?_
 refine AtT.zg ?_
 refine AtT.done ?_
 refine At.nrm ?_
 by_cases h0 : chE s = 0
 rotate_left
 ·refine At.zl (.q 0 (.n false 1 (.q 2 (.q 3 (.q 4 (.q 5 (.q 6 .done))))))) ?_
  first | refine AtT.zD zP ?_ | refine AtT.zK zP ?_ | refine AtT.zC zP ?_
  refine AtT.qg rfl rfl ok57 (open_bad s h0 _ _ hv) ?_
  rintro v8 V8 hV8 rfl
  refine AtT.zh ?_
  refine AtT.zN ?_
  refine AtT.zN ?_
  refine AtT.zg ?_
  refine AtT.zg ?_
  refine AtT.done ?_
  refine At.nrm ?_
  refine At.nrm ?_
  refine At.zl (.q 0 (.q 1 .done)) ?_
  refine AtT.zh ?_
  refine AtT.qG ?_
  refine AtT.done ?_
  refine At.nrm ?_
  refine At.qA rfl (decide_eq_true h0) ?_
  refine At.nrm ?_
  refine At.zl (.q 0 (.q 1 (.q 2 .done))) ?_
  refine AtT.zh ?_
  refine AtT.zg ?_
  refine AtT.zg ?_
  refine AtT.done ?_
  refine At.nrm ?_
  exact At.je rfl (.tmp rfl) (.tmp rfl) ⟨_, rfl, by rw [if_neg h0]; exact Sl.nil _ _ _⟩
 refine At.zl (.q 0 (.n false 1 (.q 2 (.q 3 (.q 4 (.q 5 (.q 6 .done))))))) ?_
 first | refine AtT.zD zP ?_ | refine AtT.zK zP ?_ | refine AtT.zC zP ?_
 refine AtT.qg rfl rfl ok57 (open_ok s h0 _ _ hv) ?_
 rintro v8 V8 hV8 ⟨b, rfl, hb⟩
 refine AtT.zh ?_
 refine AtT.zN ?_
 refine AtT.zN ?_
 refine AtT.zg ?_
 refine AtT.zg ?_
 refine AtT.done ?_
 refine At.nrm ?_
 refine At.nrm ?_
 refine At.zl (.q 0 (.q 1 .done)) ?_
 refine AtT.zh ?_
 refine AtT.qG ?_
 refine AtT.done ?_
 refine At.nrm ?_
 refine At.qX rfl rfl ?_
 refine At.nrm ?_
 refine At.zl (.q 0 (.n false 1 (.q 2 (.q 3 .done)))) ?_
 refine AtT.zh ?_
 refine AtT.qg rfl rfl ok64 (alone_f s (jq h0) b (knL s).length [] 0 _ _ (by omega) (by omega) (by simp) (fun i hi => by cases hi) hb (Sl.nil _ _ _)) ?_
 rintro v15 V15 hV15 hs15
 refine AtT.zg ?_
 refine AtT.zg ?_
 refine AtT.done ?_
 refine At.nrm ?_
 exact At.je rfl (.tmp rfl) (.tmp rfl) ⟨_, by rw [h0], by rw [if_pos h0]; exact hs15⟩
theorem share2_f (s : Sh) (hok : ShOk s) (z x : Int) (hz : 0 ≤ z ∧ z < ((knL s).length : Int)) (hx : 0 ≤ x ∧ x < ((knL s).length : Int)) (V : View) (b : Nat) (p3 p8 : Addr) (hb : BnV V b s) (q3 : Cells V p3 [.func (.func 69) #[.pointer (some ⟨b, 0, none⟩)] #[]]) (q8 : Cells V p8 [iv x]) :
  Fnc Tryz.prog 71 ([] ++ [iv z] ++ [.pointer (some p3), .pointer (some p8)]) V fun r _ => r = .bool (shI (gdS s) (knL s) z x) := by
 obtain ⟨i, rfl⟩ : ∃ i : Nat, z = (i : Int) := ⟨z.toNat, by omega⟩
 obtain ⟨k, rfl⟩ : ∃ k : Nat, x = (k : Int) := ⟨x.toNat, by omega⟩
 have hf := fun V' (hV : Le V V') => share_f s hok i k (by omega) (by omega) V' b (hb.le hV)
 refine qh Tryz.func71 rfl Tryz.ntmps71 (Nat.le_of_ble_eq_true rfl) ?_
 intro w0 hw0
 refine At.nrm ?_
 refine At.zl (.q 0 .done) ?_
 refine AtT.zg ?_
 refine AtT.done ?_
 refine At.nrm ?_
 refine At.zl (.q 0 (.q 1 (.q 2 (.n false 3 (.q 4 .done))))) ?_
 first | refine AtT.zm tk102 ?_ | refine AtT.zo tk102 ?_
 refine AtT.zh ?_
 first | refine AtT.zm tk3 ?_ | refine AtT.zo tk3 ?_
 refine AtT.kcallV rfl rfl rfl ok69 (hf _ (Le.refl _)) ?_
 rintro _ rfl
 refine AtT.zg ?_
 refine AtT.done ?_
 refine At.nrm ?_
 exact At.qb rfl (.tmp rfl) (by unfold shI; rw [Int.toNat_natCast, Int.toNat_natCast])
theorem zt (s : Sh) (l : List Int) (V : View) (v u : Value) (hv : ShV V v s) (hl : SlI V u l) : Fnc Tryz.prog 32 [v, u] V fun r _ => r = iv (cAe s l) := by
 obtain ⟨a, c, rfl, hs⟩ := id hv
 obtain ⟨a1, c1, rfl, k1, k2, _⟩ := id hl
 clear k1 k2
 have hlen := hl.jf
 refine qh Tryz.func32 rfl Tryz.ntmps32 (Nat.le_of_ble_eq_true rfl) ?_
 intro w0 hw0
 refine At.nrm ?_
 refine At.zl (.n false 0 (.q 1 .done)) ?_
 refine AtT.qZ ?_
 intro b2
 refine AtT.zg ?_
 refine AtT.done ?_
 refine At.nrm ?_
 by_cases h0 : chE s = 0
 rotate_left
 ·refine At.zl (.q 0 (.n false 1 (.q 2 (.q 3 (.q 4 (.q 5 (.q 6 .done))))))) ?_
  first | refine AtT.zD zP ?_ | refine AtT.zK zP ?_ | refine AtT.zC zP ?_
  refine AtT.qg rfl rfl ok57 (open_bad s h0 _ _ hv) ?_
  rintro v15 V15 hV15 rfl
  refine AtT.zh ?_
  refine AtT.zN ?_
  refine AtT.zN ?_
  refine AtT.zg ?_
  refine AtT.zg ?_
  refine AtT.done ?_
  refine At.nrm ?_
  refine At.nrm ?_
  refine At.zl (.q 0 (.q 1 .done)) ?_
  refine AtT.zh ?_
  refine AtT.qG ?_
  refine AtT.done ?_
  refine At.nrm ?_
  refine At.qA rfl (decide_eq_true h0) ?_
  refine At.nrm ?_
  refine At.zl (.q 0 (.q 1 .done)) ?_
  refine AtT.zh ?_
  refine AtT.zg ?_
  refine AtT.done ?_
  refine At.nrm ?_
  exact At.qb rfl (.tmp rfl) (by unfold cAe; rw [if_pos h0])
 have hok := jq h0
 have hkn := hok.kn
 have e0 : ¬ chE s ≠ 0 := by simpa using h0
 refine At.zl (.q 0 (.n false 1 (.q 2 (.q 3 (.q 4 (.q 5 (.q 6 .done))))))) ?_
 first | refine AtT.zD zP ?_ | refine AtT.zK zP ?_ | refine AtT.zC zP ?_
 refine AtT.qg rfl rfl ok57 (open_ok s h0 _ _ hv) ?_
 rintro v15 V15 hV15 ⟨b, rfl, hb⟩
 refine AtT.zh ?_
 refine AtT.zN ?_
 refine AtT.zN ?_
 refine AtT.zg ?_
 refine AtT.zg ?_
 refine AtT.done ?_
 refine At.nrm ?_
 obtain ⟨ab, cb, ak, ck, hc0, hc1, hc2, hc3, hsb, hsk⟩ := bn_get hb
 have hl2 := hl.le hV15
 refine At.nrm ?_
 refine At.zl (.q 0 (.q 1 .done)) ?_
 refine AtT.zh ?_
 refine AtT.qG ?_
 refine AtT.done ?_
 refine At.nrm ?_
 refine At.qX rfl rfl ?_
 refine At.nrm ?_
 refine At.zl (.q 0 .done) ?_
 refine AtT.zg ?_
 refine AtT.done ?_
 refine At.nrm ?_
 refine At.zl (.q 0 (.q 1 (.q 2 .done))) ?_
 refine AtT.zh ?_
 first | refine AtT.zZ Tryz.underlying39 ?_ | refine AtT.qa Tryz.underlying39 ?_
 refine AtT.zh ?_
 refine AtT.done ?_
 refine At.nrm ?_
 refine At.lp (ι := Nat) (KS := fun k => [(1, .slice a1 l.length c1), (5, .pointer (some ⟨b, 0, none⟩)), (7, iv (prevN l k)), (21, .slice a1 l.length c1), (22, iv l.length), (23, iv k)]) (OS := fun _ => [])
  (VS := fun k V' => Le V15 V' ∧ k ≤ l.length ∧ ∀ j, j < k → okAt l (knL s).length j = true) (μ := fun k => l.length - k) 0 ?_ ?_ ?_ ?_
 ·exact ⟨rfl, rfl, rfl, rfl, rfl, rfl, trivial⟩
 ·exact Pt.zM
 ·exact ⟨Le.refl _, Nat.zero_le _, fun j hj => absurd hj (Nat.not_lt_zero j)⟩
 rintro k V' ks' O' ⟨hVV, hkl, hokk⟩ hk hO hl3
 subst hk hO
 have hp0 := prevN_pos hokk
 have hl3 := hl2.le hVV
 have hc2' := hc2.le hVV
 have hsk' := hsk.le hVV
 refine At.nrm ?_
 refine At.zl (.q 0 .done) ?_
 refine AtT.zY ?_
 refine AtT.done ?_
 refine At.nrm ?_
 refine At.qc rfl (fun hp => ?_) (fun hp => ?_)
 ·obtain ⟨x, hx⟩ : ∃ x, l[k]? = some x := ⟨_, List.getElem?_eq_getElem (by omega)⟩
  have hgx : l.getD k 0 = x := by simp [List.getD, hx]
  refine At.nrm ?_
  refine At.zl (.q 0 (.q 1 (.q 2 .done))) ?_
  refine AtT.qo Tryz.underlying39 tk3 ?_
  intro p25 e25 he25 hc25
  first | refine AtT.zm tk3 ?_ | refine AtT.zo tk3 ?_
  obtain rfl : x = e25 := by have : l[k]? = some e25 := (by simpa using he25); rw [hx] at this; simpa using this
  refine AtT.zg ?_
  refine AtT.done ?_
  refine At.nrm ?_
  by_cases c1' : prevN l k ≤ x ∧ x ≤ ((knL s).length : Int) - 1
  ·refine At.nrm ?_
   refine At.zl (.q 0 (.q 1 (.q 2 (.q 3 (.q 4 (.q 5 (.q 6 (.q 7 (.n false 8 (.n false 9 (.q 10 .done))))))))))) ?_
   refine AtT.zh ?_
   refine AtT.zh ?_
   refine AtT.knil ?_
   first | refine AtT.zi qp ?_ | with_reducible refine AtT.zk qp ?_ | refine AtT.zn qp ?_
   first | refine AtT.zm tk84 ?_ | refine AtT.zo tk84 ?_
   first | refine AtT.zZ Tryz.underlying84 ?_ | refine AtT.qa Tryz.underlying84 ?_
   first | refine AtT.qD ?_ | refine AtT.qE ?_
   refine AtT.zh ?_
   refine AtT.zu (zT _) ?_
   intro q35 V35 hV35 hq35
   have g35 : Le V V35 := by first | exact hV35 | exact Le.trans (by assumption) hV35
   refine AtT.zq rfl rfl jl (qi (prevN l k) (((knL s).length : Int) - 1) [x] _ _ (Sl.lit hq35 rfl (by simp))) ?_
   rintro _ rfl; rw [jm, decide_eq_true c1']
   refine AtT.qW ?_
   refine AtT.done ?_
   refine At.nrm ?_
   refine At.qX rfl rfl ?_
   refine At.nrm ?_
   refine At.zl (.q 0 (.q 1 (.q 2 .done))) ?_
   refine AtT.zh ?_
   first | refine AtT.qj ?_ | refine AtT.zU ?_
   refine AtT.zg ?_
   refine AtT.done ?_
   refine At.nrm ?_
   refine At.zl (.q 0 (.q 1 .done)) ?_
   first | refine AtT.qj ?_ | refine AtT.zU ?_
   refine AtT.zh ?_
   refine AtT.done ?_
   refine At.nrm ?_
   refine At.round (k + 1) ?_ ?_ ?_ ?_
   ·show l.length - (k + 1) < l.length - k; omega
   ·refine ⟨hVV.trans (by assumption), by omega, fun j hj => ?_⟩
    by_cases hjk : j = k
    ·subst hjk; unfold okAt; rw [hgx]; exact decide_eq_true (by omega)
    ·exact hokk j (by omega)
   ·exact ⟨rfl, rfl, ivs (by simp only [prevN]; rw [hgx]), rfl, rfl, ivs (by omega), trivial⟩
   ·exact Pt.zM
  ·refine At.nrm ?_
   refine At.zl (.q 0 (.q 1 (.q 2 (.q 3 (.q 4 (.q 5 (.q 6 (.q 7 (.n false 8 (.n false 9 (.q 10 .done))))))))))) ?_
   refine AtT.zh ?_
   refine AtT.zh ?_
   refine AtT.knil ?_
   first | refine AtT.zi qp ?_ | with_reducible refine AtT.zk qp ?_ | refine AtT.zn qp ?_
   first | refine AtT.zm tk84 ?_ | refine AtT.zo tk84 ?_
   first | refine AtT.zZ Tryz.underlying84 ?_ | refine AtT.qa Tryz.underlying84 ?_
   first | refine AtT.qD ?_ | refine AtT.qE ?_
   refine AtT.zh ?_
   refine AtT.zu (zT _) ?_
   intro q35 V35 hV35 hq35
   have g35 : Le V V35 := by first | exact hV35 | exact Le.trans (by assumption) hV35
   refine AtT.zq rfl rfl jl (qi (prevN l k) (((knL s).length : Int) - 1) [x] _ _ (Sl.lit hq35 rfl (by simp))) ?_
   rintro _ rfl; rw [jm, decide_eq_false c1']
   refine AtT.qW ?_
   refine AtT.done ?_
   refine At.nrm ?_
   refine At.qA rfl rfl ?_
   have hno : lstB l (knL s).length = false := lstB_false (k := k) (by omega) (by unfold okAt; rw [hgx]; exact decide_eq_false (by omega))
   refine At.nrm ?_
   refine At.zl (.q 0 .done) ?_
   refine AtT.zg ?_
   refine AtT.done ?_
   refine At.nrm ?_
   exact At.qb rfl (.tmp rfl) (by unfold cAe; rw [if_neg e0, if_pos hno])
 obtain rfl : k = l.length := by omega
 have hlst := lstB_true hokk
 have hin := lstB_in hlst
 have e1 : ¬ lstB l (knL s).length = false := by rw [hlst]; simp
 have hb2 := hb.le hVV
 refine At.nrm ?_
 refine At.zl (.q 0 (.q 1 (.n false 2 (.n true 3 .done)))) ?_
 refine AtT.zh ?_
 refine AtT.kfn ?_
 refine AtT.qx z102 ?_
 intro b10
 first | refine AtT.jd tk102 ?_ | refine AtT.zW tk102 ?_
 refine AtT.done ?_
 refine At.nrm ?_
 refine At.giveB (b := b10) zX.zM (fun V2 hV2 hb10 => ?_)
 have q10 := qO hb10
 have hb3 := hb2.le hV2
 have hl4 := hl3.le hV2
 refine At.zl (.q 0 (.q 1 (.q 2 .done))) ?_
 refine AtT.zh ?_
 first | refine AtT.zZ Tryz.underlying39 ?_ | refine AtT.qa Tryz.underlying39 ?_
 refine AtT.zh ?_
 refine AtT.done ?_
 refine At.nrm ?_
 refine At.lp (ι := Nat) (KS := fun k => [(1, .slice a1 l.length c1), (10, .pointer (some ⟨b10, 0, none⟩)), (43, .slice a1 l.length c1), (44, iv l.length), (45, iv k)]) (OS := fun _ => [])
  (VS := fun k V' => Le V2 V' ∧ k ≤ l.length ∧ ∀ j x, j < k → l[j]? = some x → shS (shI (gdS s) (knL s)) (l.take j) x = false) (μ := fun k => l.length - k) 0 ?_ ?_ ?_ ?_
 ·exact ⟨rfl, rfl, rfl, rfl, rfl, trivial⟩
 ·exact Pt.zM
 ·exact ⟨Le.refl _, Nat.zero_le _, fun j x hj => absurd hj (Nat.not_lt_zero j)⟩
 rintro k V3 ks' O' ⟨hV3, hkl, hall⟩ hk hO hl5
 subst hk hO
 have hl5 := hl4.le hV3
 refine At.nrm ?_
 refine At.zl (.q 0 .done) ?_
 refine AtT.zY ?_
 refine AtT.done ?_
 refine At.nrm ?_
 refine At.qc rfl (fun hp2 => ?_) (fun hp2 => ?_)
 rotate_left
 ·obtain rfl : k = l.length := by omega
  have hyes := okS_yes (S := shI (gdS s) (knL s)) (l := l) fun j x hj => hall j x (List.getElem?_eq_some_iff.1 hj).1 hj
  refine At.nrm ?_
  refine At.zl (.q 0 .done) ?_
  refine AtT.zg ?_
  refine AtT.done ?_
  refine At.nrm ?_
  exact At.qb rfl (.tmp rfl) (by unfold cAe; rw [if_neg e0, if_neg e1, if_neg (by rw [hyes]; simp)])
 obtain ⟨x, hx⟩ : ∃ x, l[k]? = some x := ⟨_, List.getElem?_eq_getElem (by omega)⟩
 have hxin := hin x (List.mem_of_getElem? hx)
 refine At.nrm ?_
 refine At.zl (.q 0 (.q 1 (.q 2 (.n false 3 (.q 4 (.n true 5 .done)))))) ?_
 refine AtT.zh ?_
 refine AtT.qo Tryz.underlying39 tk3 ?_
 intro p48 e48 he48 hc48
 first | refine AtT.zm tk3 ?_ | refine AtT.zo tk3 ?_
 obtain rfl : x = e48 := by have : l[k]? = some e48 := (by simpa using he48); rw [hx] at this; simpa using this
 refine AtT.qx z3 ?_
 intro b12
 refine AtT.zg ?_
 first | refine AtT.jd tk3 ?_ | refine AtT.zW tk3 ?_
 refine AtT.done ?_
 refine At.nrm ?_
 refine At.giveB (b := b12) zX.zM (fun V4 hV4 hb12 => ?_)
 have q12 := qO hb12
 have hb5 := (hb3.le hV3).le hV4
 have q10' := (q10.le hV3).le hV4
 have hl6 := hl5.le hV4
 refine At.nrm ?_
 refine At.zl (.q 0 (.q 1 (.q 2 (.q 3 (.n false 4 .done))))) ?_
 refine AtT.zh ?_
 refine AtT.zh ?_
 refine AtT.khead Tryz.underlying39 tk3 ?_
 intro a52 c52 hs52
 refine AtT.kfn ?_
 refine AtT.zq rfl rfl ok70 (contains_n 71 [.pointer (some ⟨b10, 0, none⟩), .pointer (some ⟨b12, 0, none⟩)] (fun z => shI (gdS s) (knL s) z x) _ _ _ hs52 ok71 (fun z hz => share2_f s hok z x (hin z (List.mem_of_mem_take hz)) hxin _ b _ _ hb5 q10' q12)) ?_
 rintro _ rfl
 refine AtT.done ?_
 refine At.nrm ?_
 refine At.cond rfl (fun hc => ?_) (fun hc => ?_)
 ·have hno : okS (shI (gdS s) (knL s)) l = false := okS_no hx (by rw [Int.toNat_natCast] at hc; exact hc)
  refine At.nrm ?_
  refine At.zl (.q 0 .done) ?_
  refine AtT.zg ?_
  refine AtT.done ?_
  refine At.nrm ?_
  exact At.qb rfl (.tmp rfl) (by unfold cAe; rw [if_neg e0, if_neg e1, if_pos hno])
 ·refine At.nrm ?_
  refine At.zl (.q 0 (.q 1 .done)) ?_
  first | refine AtT.qj ?_ | refine AtT.zU ?_
  refine AtT.zh ?_
  refine AtT.done ?_
  refine At.nrm ?_
  refine At.round (k + 1) ?_ ?_ ?_ ?_
  ·show l.length - (k + 1) < l.length - k; omega
  ·refine ⟨hV3.trans hV4, by omega, fun j y hj hy => ?_⟩
   by_cases e : j = k
   ·subst e
    rw [hx] at hy; cases hy
    rw [Int.toNat_natCast] at hc; exact hc
   ·exact hall j y (by omega) hy
  ·exact ⟨rfl, rfl, rfl, rfl, ivs (by omega), trivial⟩
  ·exact Pt.zM
end Go.Proofs.YtghomjjffllkeaaGreatDoor

